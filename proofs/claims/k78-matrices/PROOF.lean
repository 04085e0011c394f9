import PyProof.Rows.All
import Wide.All
import OpenK.AllK
import Wide.FinOn
import KE.KStateDown
import HandS.ForMost
import HandS.Codes
import HandS.Style
import HandS.Defaults
import HandS.HeadHook2
import HandS.IsInst
import HandS.OwnEq
import HandS.NoneIn
import HandS.RaiseMore
import HandS.WideBits
import HandS.Dict
import HandS.Flt
import KE.SortData
import HandS.Call
import HandS.Conv
import KE.KDictPairs
import KE.KDictSum
import PySem.Challenge.RW_curvewords_k78_whole_matrices_of_descent
import HandS.Head0
import HandS.Head1
import HandS.Head2
import HandS.HeadEnd
import HandS.HeadHook1
set_option Elab.async false
set_option linter.all false
set_option maxRecDepth 100000
set_option autoImplicit false
set_option maxHeartbeats 4000000
/-! Cw: data by value over the hand layer: what a heap shows of plain data (Rep), what an expression and a statement do with it (EvD, StD). -/
namespace Cw
open PySem PySem.Spec PyProof.Rows L2
abbrev Fg := PySem.W.Frag

/-- plain data -/
inductive D where
  | non | bl (b : Bool) | int (i : Int) | str (x : Str)
  | lst (xs : List D) | tup (xs : List D)
  | scr (ns : List Int)
  | key (ns : List Int)
  | ins (C : Addr) (ns : List Str) (xs : List D)

mutual
def Rep (K : Fg) (F : Hp) : D → V → Prop
  | .non, v => v = .non
  | .bl b, v => v = .bl b
  | .int i, v => v = .int i
  | .str x, v => v = .str x
  | .lst ds, v => ∃ a vs, v = .ref a ∧ F a = some (.lst vs) ∧ Reps K F ds vs
  | .tup ds, v => ∃ a vs, v = .ref a ∧ SqT K F a vs ∧ Reps K F ds vs
  | .scr ns, v => ∃ a, v = .ref a ∧ SqL K F a (ns.map V.int)
  | .key ns, v => ∃ a, v = .ref a ∧ F a = some (.tup (ns.map V.int))
  | .ins C ns ds, v => ∃ a dx us, v = .ref a ∧ F a = some (.ins C dx (ns.zip us)) ∧ us.length = ns.length ∧ Reps K F ds us
def Reps (K : Fg) (F : Hp) : List D → List V → Prop
  | [], vs => vs = []
  | d :: ds, vs => ∃ v r, vs = v :: r ∧ Rep K F d v ∧ Reps K F ds r
end

theorem sqT_mono {K : Fg} {F F' : Hp} (e : Same F F') {a : Addr} {xs : List V} (h : SqT K F a xs) : SqT K F' a xs := by
  rcases h with (h | ⟨o, h⟩) | h
  · exact .inl (.inl (e _ _ h))
  · exact .inl (.inr ⟨o, e _ _ h⟩)
  · exact .inr h
theorem sqL_mono {K : Fg} {F F' : Hp} (e : Same F F') {a : Addr} {xs : List V} (h : SqL K F a xs) : SqL K F' a xs := by
  rcases h with (h | ⟨o, h⟩) | h
  · exact .inl (.inl (e _ _ h))
  · exact .inl (.inr ⟨o, e _ _ h⟩)
  · exact .inr h
mutual
theorem Rep.mono {K : Fg} {F F' : Hp} (e : Same F F') : ∀ (d : D) (v : V), Rep K F d v → Rep K F' d v
  | .non, _, h => h
  | .bl _, _, h => h
  | .int _, _, h => h
  | .str _, _, h => h
  | .lst ds, _, h => by
    obtain ⟨a, vs, rfl, h1, h2⟩ := h
    exact ⟨a, vs, rfl, e _ _ h1, Reps.mono e ds vs h2⟩
  | .tup ds, _, h => by
    obtain ⟨a, vs, rfl, h1, h2⟩ := h
    exact ⟨a, vs, rfl, sqT_mono e h1, Reps.mono e ds vs h2⟩
  | .scr ns, _, h => by
    obtain ⟨a, rfl, h1⟩ := h
    exact ⟨a, rfl, sqL_mono e h1⟩
  | .key ns, _, h => by
    obtain ⟨a, rfl, h1⟩ := h
    exact ⟨a, rfl, e _ _ h1⟩
  | .ins C ns ds, _, h => by
    obtain ⟨a, dx, us, rfl, h1, h2, h3⟩ := h
    exact ⟨a, dx, us, rfl, e _ _ h1, h2, Reps.mono e ds us h3⟩
theorem Reps.mono {K : Fg} {F F' : Hp} (e : Same F F') : ∀ (ds : List D) (vs : List V), Reps K F ds vs → Reps K F' ds vs
  | [], _, h => h
  | d :: ds, _, h => by
    obtain ⟨v, r, rfl, h1, h2⟩ := h
    exact ⟨v, r, rfl, Rep.mono e d v h1, Reps.mono e ds r h2⟩
end
theorem Reps.len {K : Fg} {F : Hp} : ∀ {ds : List D} {vs : List V}, Reps K F ds vs → vs.length = ds.length
  | [], _, h => by cases h; rfl
  | d :: ds, _, h => by
    obtain ⟨v, r, rfl, h1, h2⟩ := h
    rw [List.length_cons, List.length_cons, Reps.len h2]
theorem Reps.get {K : Fg} {F : Hp} : ∀ {ds : List D} {vs : List V} {i : Nat} {d : D}, Reps K F ds vs → ds[i]? = some d → ∃ v, vs[i]? = some v ∧ Rep K F d v
  | [], _, i, d, h, e => by simp at e
  | c :: ds, _, 0, d, h, e => by
    obtain ⟨v, r, rfl, h1, h2⟩ := h
    have : c = d := by simpa using e
    subst this
    exact ⟨v, rfl, h1⟩
  | c :: ds, _, i + 1, d, h, e => by
    obtain ⟨v, r, rfl, h1, h2⟩ := h
    obtain ⟨u, hu, hr⟩ := Reps.get (i := i) h2 (by simpa using e)
    exact ⟨u, by simpa using hu, hr⟩
theorem Reps.app {K : Fg} {F : Hp} : ∀ {ds es : List D} {vs us : List V}, Reps K F ds vs → Reps K F es us → Reps K F (ds ++ es) (vs ++ us)
  | [], _, _, _, h, k => by cases h; exact k
  | d :: ds, _, _, _, h, k => by
    obtain ⟨v, r, rfl, h1, h2⟩ := h
    exact ⟨v, r ++ _, rfl, h1, Reps.app h2 k⟩
theorem Reps.one {K : Fg} {F : Hp} {d : D} {v : V} (h : Rep K F d v) : Reps K F [d] [v] := ⟨v, [], rfl, h, rfl⟩
theorem Reps.cons {K : Fg} {F : Hp} {d : D} {v : V} {ds : List D} {vs : List V} (h : Rep K F d v) (k : Reps K F ds vs) : Reps K F (d :: ds) (v :: vs) := ⟨v, vs, rfl, h, k⟩
theorem Reps.set {K : Fg} {F : Hp} : ∀ {ds : List D} {vs : List V} (i : Nat) {d : D} {v : V}, Reps K F ds vs → Rep K F d v → Reps K F (ds.set i d) (vs.set i v)
  | [], _, i, d, v, h, k => by cases h; exact rfl
  | c :: ds, _, 0, d, v, h, k => by
    obtain ⟨u, r, rfl, h1, h2⟩ := h
    exact ⟨v, r, rfl, k, h2⟩
  | c :: ds, _, i + 1, d, v, h, k => by
    obtain ⟨u, r, rfl, h1, h2⟩ := h
    exact ⟨u, r.set i v, rfl, h1, Reps.set i h2 k⟩
theorem Reps.take {K : Fg} {F : Hp} : ∀ {ds : List D} {vs : List V} (n : Nat), Reps K F ds vs → Reps K F (ds.take n) (vs.take n)
  | [], _, n, h => by cases h; simp [Reps]
  | _ :: _, _, 0, h => rfl
  | d :: ds, _, n + 1, h => by
    obtain ⟨u, r, rfl, h1, h2⟩ := h
    exact ⟨u, r.take n, rfl, h1, Reps.take n h2⟩
theorem Reps.drop {K : Fg} {F : Hp} : ∀ {ds : List D} {vs : List V} (n : Nat), Reps K F ds vs → Reps K F (ds.drop n) (vs.drop n)
  | [], _, n, h => by cases h; simp [Reps]
  | _ :: _, _, 0, h => h
  | d :: ds, _, n + 1, h => by
    obtain ⟨u, r, rfl, h1, h2⟩ := h
    exact Reps.drop n h2
theorem Reps.rev {K : Fg} {F : Hp} : ∀ {ds : List D} {vs : List V}, Reps K F ds vs → Reps K F ds.reverse vs.reverse
  | [], _, h => by cases h; exact rfl
  | d :: ds, _, h => by
    obtain ⟨u, r, rfl, h1, h2⟩ := h
    rw [List.reverse_cons, List.reverse_cons]
    exact Reps.app (Reps.rev h2) (Reps.one h1)

/-! ### a step of the heap: F what is known of H -/
/-- what a view may come to show: what is new, and tuples -/
def NewAt (H : Hp) (a : Addr) : Prop := H a = none ∨ ∃ vs, H a = some (.tup vs)
theorem NewAt.back {H H' : Hp} {a : Addr} (h : NewAt H' a) (s : Same H H') : NewAt H a := by
  cases q : H a with
  | none => exact .inl q
  | some o =>
    rcases h with m | ⟨vs, m⟩
    · rw [s _ _ q] at m; cases m
    · have := s _ _ q
      rw [m] at this
      cases this
      exact .inr ⟨vs, q⟩
structure Step (F H F' H' : Hp) : Prop where
  ff : Same F F'
  hh : Same H H'
  fh : Same F' H'
  nw : ∀ a, F' a ≠ none → F a ≠ none ∨ NewAt H a
theorem Step.refl {F H : Hp} (h : Same F H) : Step F H F H := ⟨Same.refl _, Same.refl _, h, fun _ n => .inl n⟩
theorem Step.trans {F H F1 H1 F2 H2 : Hp} (a : Step F H F1 H1) (b : Step F1 H1 F2 H2) : Step F H F2 H2 :=
  ⟨a.ff.trans b.ff, a.hh.trans b.hh, b.fh, fun x n => (b.nw x n).elim (fun m => a.nw x m) fun m => .inr (m.back a.hh)⟩
theorem same_new {H : Hp} {p : Addr} {o : HO} (h : H p = none) : Same H (upd H p o) := fun b u e => by
  rw [upd_ne (ne_of_none e h)]
  exact e
theorem Step.newF {F H : Hp} {p : Addr} {o : HO} (h : Same F H) (hp : H p = none) : Step F H (upd F p o) (upd H p o) where
  ff := same_new (h.free hp)
  hh := same_new hp
  fh := fun b u e => by
    by_cases q : b = p
    · subst q
      rw [upd_same] at e ⊢
      exact e
    · rw [upd_ne q] at e ⊢
      exact h b u e
  nw := fun a n => by
    by_cases q : a = p
    · subst q
      exact .inr (.inl hp)
    · rw [upd_ne q] at n
      exact .inl n
theorem Step.newP {F H : Hp} {p : Addr} {o : HO} (h : Same F H) (hp : H p = none) : Step F H F (upd H p o) :=
  ⟨Same.refl _, same_new hp, h.trans (same_new hp), fun _ n => .inl n⟩
/-- a private object changes -/
theorem Step.mutP {F0 H0 F H : Hp} {p : Addr} {o : HO} (s : Step F0 H0 F H) (h0 : H0 p = none) (hf : F p = none) : Step F0 H0 F (upd H p o) where
  ff := s.ff
  hh := fun b u e => by
    rw [upd_ne (ne_of_none e h0)]
    exact s.hh b u e
  fh := fun b u e => by
    rw [upd_ne (ne_of_none e hf)]
    exact s.fh b u e
  nw := s.nw
/-- a private object is shown -/
theorem Step.pub {F0 H0 F H : Hp} {p : Addr} {o : HO} (s : Step F0 H0 F H) (h0 : H0 p = none) (hf : F p = none) (hp : H p = some o) : Step F0 H0 (upd F p o) H where
  ff := s.ff.trans (same_new hf)
  hh := s.hh
  fh := fun b u e => by
    by_cases q : b = p
    · subst q
      rw [upd_same] at e
      rw [hp]
      exact e
    · rw [upd_ne q] at e
      exact s.fh b u e
  nw := fun a n => by
    by_cases q : a = p
    · subst q
      exact .inr (.inl h0)
    · rw [upd_ne q] at n
      exact s.nw a n
theorem Step.kp {F H F' H' : Hp} (s : Step F H F' H') {p : Addr} {o : HO} (hp : H p = some o) (hf : F p = none) (ht : ∀ vs, o ≠ .tup vs := by intro _ h; cases h) : H' p = some o ∧ F' p = none := by
  refine ⟨s.hh _ _ hp, ?_⟩
  cases q : F' p with
  | none => rfl
  | some u =>
    rcases s.nw p (by rw [q]; exact fun z => nomatch z) with z | z | ⟨vs, z⟩
    · exact absurd hf z
    · rw [hp] at z
      cases z
    · rw [hp] at z
      exact absurd (Option.some.inj z) (ht vs)

/-! ### slots -/
/-- what a private object is: a list, a dict with keys that are tuples of ints -/
inductive PvK where
  | lst | dct (ks : List (List Int))
def PvK.ho : PvK → List V → HO
  | .lst, vs => .lst vs
  | .dct ks, vs => .dT ((ks.map fun k => k.map Sum.inl).zip vs)
theorem ho_ne (k : PvK) {vs : List V} : ∀ us, k.ho vs ≠ .tup us := fun us h => by cases k <;> cases h
inductive Sl where
  | un | val (d : D) | prv (k : PvK) (ds : List D)
abbrev Sl.own (ds : List D) : Sl := .prv .lst ds
def SlOk (K : Fg) (H0 F H : Hp) : Sl → Option V → Prop
  | .un, _ => True
  | .val d, o => ∃ v, o = some v ∧ Rep K F d v
  | .prv k ds, o => ∃ a vs, o = some (.ref a) ∧ H a = some (k.ho vs) ∧ F a = none ∧ H0 a = none ∧ Reps K F ds vs
abbrev Ctx := List Sl
structure SOk (K : Fg) (F0 H0 F H : Hp) (σ : L2.St) (G : Ctx) : Prop where
  st : Step F0 H0 F H
  len : σ.length = G.length
  sl : ∀ (i : Nat) (s : Sl), G[i]? = some s → ∃ o, σ[i]? = some o ∧ SlOk K H0 F H s o
  ap : ∀ {k l : PvK} (i j : Nat) (ds es : List D) (a : Addr), G[i]? = some (.prv k ds) → G[j]? = some (.prv l es) → σ[i]? = some (some (.ref a)) → σ[j]? = some (some (.ref a)) → i = j
section
variable {K : Fg} {F0 H0 F H F' H' : Hp} {σ : L2.St} {G : Ctx}
theorem SOk.fh (s : SOk K F0 H0 F H σ G) : Same F H := s.st.fh
theorem SlOk.step {s : Sl} {o : Option V} (h : SlOk K H0 F H s o) (t : Step F H F' H') : SlOk K H0 F' H' s o := by
  cases s with
  | un => trivial
  | val d =>
    obtain ⟨v, e, r⟩ := h
    exact ⟨v, e, Rep.mono t.ff _ _ r⟩
  | prv k ds =>
    obtain ⟨a, vs, e, h1, h2, h3, h4⟩ := h
    obtain ⟨k1, k2⟩ := t.kp h1 h2 (ho_ne k)
    exact ⟨a, vs, e, k1, k2, h3, Reps.mono t.ff _ _ h4⟩
theorem SOk.step (s : SOk K F0 H0 F H σ G) (t : Step F H F' H') : SOk K F0 H0 F' H' σ G :=
  ⟨s.st.trans t, s.len, fun i c e => let ⟨o, h1, h2⟩ := s.sl i c e; ⟨o, h1, h2.step t⟩, s.ap⟩
theorem SOk.val (s : SOk K F0 H0 F H σ G) {i : Nat} {d : D} (e : G[i]? = some (.val d)) : ∃ v, σ[i]? = some (some v) ∧ Rep K F d v := by
  obtain ⟨o, h1, v, rfl, h2⟩ := s.sl i _ e
  exact ⟨v, h1, h2⟩
theorem SOk.prv (s : SOk K F0 H0 F H σ G) {i : Nat} {k : PvK} {ds : List D} (e : G[i]? = some (.prv k ds)) : ∃ a vs, σ[i]? = some (some (.ref a)) ∧ H a = some (k.ho vs) ∧ F a = none ∧ H0 a = none ∧ Reps K F ds vs := by
  obtain ⟨o, h1, a, vs, rfl, h2⟩ := s.sl i _ e
  exact ⟨a, vs, h1, h2⟩
theorem SOk.own (s : SOk K F0 H0 F H σ G) {i : Nat} {ds : List D} (e : G[i]? = some (.own ds)) : ∃ a vs, σ[i]? = some (some (.ref a)) ∧ H a = some (.lst vs) ∧ F a = none ∧ H0 a = none ∧ Reps K F ds vs := s.prv e
theorem get_set {α : Type} {l : List α} {i j : Nat} {x y : α} (h : (l.set i x)[j]? = some y) : (i = j ∧ y = x ∧ i < l.length) ∨ (i ≠ j ∧ l[j]? = some y) := by
  by_cases q : i = j
  · subst q
    by_cases hl : i < l.length
    · rw [List.getElem?_set_self hl] at h
      exact .inl ⟨rfl, (Option.some.inj h).symm, hl⟩
    · rw [List.getElem?_eq_none (by simpa using hl)] at h
      cases h
  · rw [List.getElem?_set_ne q] at h
    exact .inr ⟨q, h⟩
theorem SOk.set (s : SOk K F0 H0 F H σ G) {i : Nat} {d : D} {v : V} (r : Rep K F d v) : SOk K F0 H0 F H (σ.set i (some v)) (G.set i (.val d)) where
  st := s.st
  len := by rw [List.length_set, List.length_set, s.len]
  sl := fun j c e => by
    rcases get_set e with ⟨rfl, rfl, hl⟩ | ⟨ne, e'⟩
    · exact ⟨some v, by rw [List.getElem?_set_self (by rw [s.len]; exact hl)], v, rfl, r⟩
    · obtain ⟨o, h1, h2⟩ := s.sl j c e'
      exact ⟨o, by rw [List.getElem?_set_ne ne]; exact h1, h2⟩
  ap := fun j k ds es a e1 e2 h1 h2 => by
    rcases get_set e1 with ⟨_, q, _⟩ | ⟨n1, e1'⟩
    · cases q
    · rcases get_set e2 with ⟨_, q, _⟩ | ⟨n2, e2'⟩
      · cases q
      · rw [List.getElem?_set_ne n1] at h1
        rw [List.getElem?_set_ne n2] at h2
        exact s.ap j k ds es a e1' e2' h1 h2
/-- a private list comes to a slot -/
theorem SOk.setPrv (s : SOk K F0 H0 F H σ G) {kk : PvK} {i : Nat} {p : Addr} {vs : List V} {ds : List D} (hp : H p = some (kk.ho vs)) (hf : F p = none) (h0 : H0 p = none) (r : Reps K F ds vs)
    (new : ∀ {l : PvK} (j : Nat) (es : List D), G[j]? = some (.prv l es) → σ[j]? ≠ some (some (.ref p))) : SOk K F0 H0 F H (σ.set i (some (.ref p))) (G.set i (.prv kk ds)) where
  st := s.st
  len := by rw [List.length_set, List.length_set, s.len]
  sl := fun j c e => by
    rcases get_set e with ⟨rfl, rfl, hl⟩ | ⟨ne, e'⟩
    · exact ⟨some (.ref p), by rw [List.getElem?_set_self (by rw [s.len]; exact hl)], p, vs, rfl, hp, hf, h0, r⟩
    · obtain ⟨o, h1, h2⟩ := s.sl j c e'
      exact ⟨o, by rw [List.getElem?_set_ne ne]; exact h1, h2⟩
  ap := fun j k ds' es a e1 e2 h1 h2 => by
    rcases get_set e1 with ⟨r1, _, l1⟩ | ⟨n1, e1'⟩
    · rcases get_set e2 with ⟨r2, _, _⟩ | ⟨n2, e2'⟩
      · exact r1.symm.trans r2
      · subst r1
        rw [List.getElem?_set_self (by rw [s.len]; exact l1)] at h1
        rw [List.getElem?_set_ne n2] at h2
        have : V.ref p = V.ref a := Option.some.inj (Option.some.inj h1)
        cases this
        exact absurd h2 (new k es e2')
    · rcases get_set e2 with ⟨r2, _, l2⟩ | ⟨n2, e2'⟩
      · subst r2
        rw [List.getElem?_set_self (by rw [s.len]; exact l2)] at h2
        rw [List.getElem?_set_ne n1] at h1
        have : V.ref p = V.ref a := Option.some.inj (Option.some.inj h2)
        cases this
        exact absurd h1 (new j ds' e1')
      · rw [List.getElem?_set_ne n1] at h1
        rw [List.getElem?_set_ne n2] at h2
        exact s.ap j k _ es a e1' e2' h1 h2
theorem SOk.setOwn (s : SOk K F0 H0 F H σ G) {i : Nat} {p : Addr} {vs : List V} {ds : List D} (hp : H p = some (.lst vs)) (hf : F p = none) (h0 : H0 p = none) (r : Reps K F ds vs)
    (new : ∀ {l : PvK} (j : Nat) (es : List D), G[j]? = some (.prv l es) → σ[j]? ≠ some (some (.ref p))) : SOk K F0 H0 F H (σ.set i (some (.ref p))) (G.set i (.own ds)) := s.setPrv (kk := .lst) hp hf h0 r new
/-- a private list of a slot changes in place -/
theorem SOk.mutPrv (s : SOk K F0 H0 F H σ G) {k0 k1 : PvK} {i : Nat} {p : Addr} {vs : List V} {ds es : List D} (e : G[i]? = some (.prv k0 es)) (hs : σ[i]? = some (some (.ref p))) (r : Reps K F ds vs) : SOk K F0 H0 F (upd H p (k1.ho vs)) σ (G.set i (.prv k1 ds)) := by
  obtain ⟨a, us, g1, g2, g3, g4, g5⟩ := s.prv e
  have ea : V.ref a = V.ref p := Option.some.inj (Option.some.inj (g1.symm.trans hs))
  cases ea
  refine ⟨s.st.mutP g4 g3, by rw [List.length_set, s.len], fun j c q => ?_, fun j k ds' es' b e1 e2 h1 h2 => ?_⟩
  · rcases get_set q with ⟨rfl, rfl, hl⟩ | ⟨ne, q'⟩
    · exact ⟨some (.ref p), hs, p, vs, rfl, upd_same, g3, g4, r⟩
    · obtain ⟨o, h1, h2⟩ := s.sl j c q'
      refine ⟨o, h1, ?_⟩
      cases c with
      | un => trivial
      | val d => exact h2
      | prv kk ds' =>
        obtain ⟨b, ws, rfl, k1, k2, k3, k4⟩ := h2
        refine ⟨b, ws, rfl, ?_, k2, k3, k4⟩
        rw [upd_ne (fun z => ?_)]
        · exact k1
        · subst z
          exact ne (s.ap i j _ _ _ e q' hs h1)
  · have f : ∀ (l : PvK) (m : Nat) (xs : List D), (G.set i (.prv k1 ds))[m]? = some (.prv l xs) → ∃ l' ys, G[m]? = some (.prv l' ys) := fun l m xs q => by
      rcases get_set q with ⟨rfl, _, _⟩ | ⟨_, q'⟩
      · exact ⟨_, _, e⟩
      · exact ⟨_, _, q'⟩
    obtain ⟨l1, y1, z1⟩ := f _ _ _ e1
    obtain ⟨l2, y2, z2⟩ := f _ _ _ e2
    exact s.ap j k y1 y2 b z1 z2 h1 h2
theorem SOk.mutOwn (s : SOk K F0 H0 F H σ G) {i : Nat} {p : Addr} {vs : List V} {ds es : List D} (e : G[i]? = some (.own es)) (hs : σ[i]? = some (some (.ref p))) (r : Reps K F ds vs) : SOk K F0 H0 F (upd H p (.lst vs)) σ (G.set i (.own ds)) := s.mutPrv (k0 := .lst) (k1 := .lst) e hs r
/-- a private list is shown -/
theorem SOk.pub (s : SOk K F0 H0 F H σ G) {i : Nat} {ds : List D} (e : G[i]? = some (.own ds)) : ∃ F', Same F F' ∧ SOk K F0 H0 F' H σ (G.set i (.val (.lst ds))) := by
  obtain ⟨a, us, g1, g2, g3, g4, g5⟩ := s.own e
  refine ⟨upd F a (.lst us), same_new g3, s.st.pub g4 g3 g2, by rw [List.length_set, s.len], fun j c q => ?_, fun j k ds' es' b e1 e2 h1 h2 => ?_⟩
  · rcases get_set q with ⟨rfl, rfl, hl⟩ | ⟨ne, q'⟩
    · exact ⟨some (.ref a), g1, .ref a, rfl, a, us, rfl, upd_same, Reps.mono (same_new g3) _ _ g5⟩
    · obtain ⟨o, h1, h2⟩ := s.sl j c q'
      refine ⟨o, h1, ?_⟩
      cases c with
      | un => trivial
      | val d =>
        obtain ⟨v, k1, k2⟩ := h2
        exact ⟨v, k1, Rep.mono (same_new g3) _ _ k2⟩
      | prv kk ds' =>
        obtain ⟨b, ws, rfl, k1, k2, k3, k4⟩ := h2
        refine ⟨b, ws, rfl, k1, ?_, k3, Reps.mono (same_new g3) _ _ k4⟩
        rw [upd_ne (fun z => ?_)]
        · exact k2
        · subst z
          exact ne (s.ap i j _ _ _ e q' g1 h1)
  · have f : ∀ (l : PvK) (m : Nat) (xs : List D), (G.set i (.val (.lst ds)))[m]? = some (.prv l xs) → G[m]? = some (.prv l xs) := fun l m xs q => by
      rcases get_set q with ⟨_, z, _⟩ | ⟨_, q'⟩
      · cases z
      · exact q'
    exact s.ap j k _ _ b (f _ _ _ e1) (f _ _ _ e2) h1 h2
/-- less is known -/
def Weak (G G' : Ctx) : Prop := G.length = G'.length ∧ ∀ (i : Nat) (s : Sl), G'[i]? = some s → s = Sl.un ∨ G[i]? = some s
theorem Weak.nil : Weak [] [] := ⟨rfl, fun _ _ h => .inr h⟩
theorem Weak.un {s : Sl} {G G' : Ctx} (w : Weak G G') : Weak (s :: G) (.un :: G') := ⟨by rw [List.length_cons, List.length_cons, w.1], fun i c h => by
  cases i with
  | zero => exact .inl (Option.some.inj h).symm
  | succ i => exact w.2 i c h⟩
theorem Weak.eq {s : Sl} {G G' : Ctx} (w : Weak G G') : Weak (s :: G) (s :: G') := ⟨by rw [List.length_cons, List.length_cons, w.1], fun i c h => by
  cases i with
  | zero => exact .inr h
  | succ i => exact w.2 i c h⟩
theorem Weak.refl (G : Ctx) : Weak G G := ⟨rfl, fun _ _ h => .inr h⟩
theorem Weak.trans {G G1 G2 : Ctx} (a : Weak G G1) (b : Weak G1 G2) : Weak G G2 := ⟨a.1.trans b.1, fun i s h => (b.2 i s h).elim .inl fun h => a.2 i s h⟩
theorem SOk.weak {G' : Ctx} (s : SOk K F0 H0 F H σ G) (w : Weak G G') : SOk K F0 H0 F H σ G' where
  st := s.st
  len := s.len.trans w.1
  sl := fun i c e => by
    rcases w.2 i c e with rfl | e'
    · have hi : i < σ.length := by
        rw [s.len, w.1]
        exact (List.getElem?_eq_some_iff.mp e).1
      exact ⟨σ[i], List.getElem?_eq_getElem hi, trivial⟩
    · exact s.sl i c e'
  ap := fun i j ds es a e1 e2 h1 h2 => by
    rcases w.2 i _ e1 with q | e1'
    · cases q
    · rcases w.2 j _ e2 with q | e2'
      · cases q
      · exact s.ap i j ds es a e1' e2' h1 h2
end
end Cw
set_option maxHeartbeats 4000000
namespace Cw
open PySem PySem.Spec PyProof.Rows L2
section
variable (K : Fg)
/-- an expression is worth d; its value may be held (EvD), may be looked at (EvH); a new list of one's own (EvN) -/
def EvD (te : TE) (G : Ctx) (d : D) : Prop := ∀ F0 H0 F H σ, SOk K F0 H0 F H σ G → ∀ Q : VK, (∀ v F' H', Step F H F' H' → Rep K F' d v → Q v H') → te σ H Q
def EvH (te : TE) (G : Ctx) (d : D) : Prop := ∀ F0 H0 F H σ, SOk K F0 H0 F H σ G → ∀ Q : VK, (∀ v F' H', Step F H F' H' → Rep K H' d v → Q v H') → te σ H Q
def EvN (te : TE) (G : Ctx) (ds : List D) : Prop := ∀ F0 H0 F H σ, SOk K F0 H0 F H σ G → ∀ Q : VK, (∀ p vs F' H', Step F H F' H' → H p = none → F' p = none → H' p = some (.lst vs) → Reps K F' ds vs → Q (.ref p) H') → te σ H Q
def EvB (tt : TT) (G : Ctx) (b : Bool) : Prop := ∀ F0 H0 F H σ, SOk K F0 H0 F H σ G → ∀ Q : Bool → Hp → Prop, (∀ F' H', Step F H F' H' → Q b H') → tt σ H Q
def EvA (ta : TA) (G : Ctx) (ds : List D) : Prop := ∀ F0 H0 F H σ, SOk K F0 H0 F H σ G → ∀ Q : List V → Hp → Prop, (∀ vs F' H', Step F H F' H' → Reps K F' ds vs → Q vs H') → ta σ H Q
def EvO (to : TO) (G : Ctx) (o : Option Int) : Prop := ∀ F0 H0 F H σ, SOk K F0 H0 F H σ G → ∀ Q : Option Int → Hp → Prop, (∀ F' H', Step F H F' H' → Q o H') → to σ H Q
/-- what an iterator yields -/
def Walks (J : It) (F : Hp) (ds : List D) : Prop := ∀ F1 H1, Same F F1 → Same F1 H1 →
  (∀ (i : Nat) (d : D), ds[i]? = some d → J.go i H1 ∧ ∀ x H2, J.yld i H1 x H2 → ∃ F2, Step F1 H1 F2 H2 ∧ Rep K F2 d x) ∧ ∀ i : Nat, ds.length ≤ i → J.stop i H1
def ItD (wi : TI) (G : Ctx) (ds : List D) : Prop := ∀ F0 H0 F H σ, SOk K F0 H0 F H σ G → ∀ R : It → Hp → Prop, (∀ J F' H', Step F H F' H' → Walks K J F' ds → R J H') → wi σ H R
/-- operations on values -/
def Op1 (r : V → Hp → VK → Prop) (a d : D) : Prop := ∀ F H x, Same F H → Rep K F a x → ∀ Q : VK, (∀ v F' H', Step F H F' H' → Rep K F' d v → Q v H') → r x H Q
def Op2 (r : R2) (a b d : D) : Prop := ∀ F H x y, Same F H → Rep K F a x → Rep K F b y → ∀ Q : VK, (∀ v F' H', Step F H F' H' → Rep K F' d v → Q v H') → r x y H Q
def OpA (r : List V → Hp → VK → Prop) (as : List D) (d : D) : Prop := ∀ F H xs, Same F H → Reps K F as xs → ∀ Q : VK, (∀ v F' H', Step F H F' H' → Rep K F' d v → Q v H') → r xs H Q
def OpAN (r : List V → Hp → VK → Prop) (as : List D) (ds : List D) : Prop := ∀ F H xs, Same F H → Reps K F as xs → ∀ Q : VK, (∀ p vs F' H', Step F H F' H' → H p = none → F' p = none → H' p = some (.lst vs) → Reps K F' ds vs → Q (.ref p) H') → r xs H Q
end
/-- data whose values need no heap -/
def Scal (d : D) : Prop := ∀ (K : Fg) (F F' : Hp) (v : V), Rep K F d v → Rep K F' d v
theorem scal_int {i : Int} : Scal (.int i) := fun _ _ _ _ h => h
theorem scal_bl {b : Bool} : Scal (.bl b) := fun _ _ _ _ h => h
theorem scal_non : Scal .non := fun _ _ _ _ h => h
theorem scal_str {x : Str} : Scal (.str x) := fun _ _ _ _ h => h
section
variable {K : Fg} {G : Ctx} {te ta tb tc : TE} {tt tu : TT} {tr : TA} {d e a b c : D} {ds es : List D}
theorem EvD.h (h : EvD K te G d) : EvH K te G d := fun F0 H0 F H σ s Q q => h F0 H0 F H σ s Q fun v F' H' t r => q v F' H' t (Rep.mono t.fh _ _ r)
theorem EvD.cast (h : EvD K te G d) (q : d = e) : EvD K te G e := q ▸ h
theorem EvN.cast (h : EvN K te G ds) (q : ds = es) : EvN K te G es := q ▸ h
theorem EvB.cast {b c : Bool} (h : EvB K tt G b) (q : b = c) : EvB K tt G c := q ▸ h
/-- a new list may be held -/
theorem ev_pub (h : EvN K te G ds) : EvD K te G (.lst ds) := fun F0 H0 F H σ s Q q => h F0 H0 F H σ s Q fun p vs F' H' t hp hf hv r =>
  q (.ref p) (upd F' p (.lst vs)) H' (t.pub hp hf hv) ⟨p, vs, rfl, upd_same, Reps.mono (same_new hf) _ _ r⟩
theorem eh_pub (h : EvN K te G ds) : EvH K te G (.lst ds) := (ev_pub h).h
theorem ev_var {i : Nat} (h : G[i]? = some (.val d)) : EvD K (tVar i) G d := fun F0 H0 F H σ s Q q => by
  obtain ⟨v, e, r⟩ := s.val h
  exact ⟨v, e, q v F H (Step.refl s.fh) r⟩
theorem eh_own {i : Nat} (h : G[i]? = some (.own ds)) : EvH K (tVar i) G (.lst ds) := fun F0 H0 F H σ s Q q => by
  obtain ⟨a, vs, e, h1, h2, h3, h4⟩ := s.own h
  exact ⟨.ref a, e, q _ F H (Step.refl s.fh) ⟨a, vs, rfl, h1, Reps.mono s.fh _ _ h4⟩⟩
theorem ev_int {i : Int} : EvD K (tC (.int i)) G (.int i) := fun F0 H0 F H σ s Q q => q _ F H (Step.refl s.fh) rfl
theorem ev_bl {b : Bool} : EvD K (tC (.bl b)) G (.bl b) := fun F0 H0 F H σ s Q q => q _ F H (Step.refl s.fh) rfl
theorem ev_non : EvD K (tC .non) G .non := fun F0 H0 F H σ s Q q => q _ F H (Step.refl s.fh) rfl
theorem ev_str {x : Str} : EvD K (tC (.str x)) G (.str x) := fun F0 H0 F H σ s Q q => q _ F H (Step.refl s.fh) rfl
/-- a thing of the module's top -/
theorem ev_glo {v : V} (h : ∀ F, Rep K F d v) : EvD K (tC v) G d := fun F0 H0 F H σ s Q q => q _ F H (Step.refl s.fh) (h F)
theorem ev_op {r : R2} (ha : EvD K ta G a) (hb : EvD K tb G b) (hr : Op2 K r a b d) : EvD K (tOp r ta tb) G d := fun F0 H0 F H σ s Q q =>
  ha F0 H0 F H σ s _ fun v F1 H1 t1 r1 => hb F0 H0 F1 H1 σ (s.step t1) _ fun u F2 H2 t2 r2 => hr F2 H2 v u t2.fh (Rep.mono t2.ff _ _ r1) r2 Q fun w F3 H3 t3 r3 => q w F3 H3 ((t1.trans t2).trans t3) r3
/-- .. whose answer needs no heap -/
theorem ev_opS {r : R2} (ha : EvH K ta G a) (hb : EvH K tb G b) (hr : Op2 K r a b d) (hd : Scal d) : EvD K (tOp r ta tb) G d := fun F0 H0 F H σ s Q q =>
  ha F0 H0 F H σ s _ fun v F1 H1 t1 r1 => hb F0 H0 F1 H1 σ (s.step t1) _ fun u F2 H2 t2 r2 => hr H2 H2 v u (Same.refl _) (Rep.mono t2.hh _ _ r1) r2 Q fun w F3 H3 t3 r3 =>
    q w F2 H3 ((t1.trans t2).trans ⟨Same.refl _, t3.hh, t2.fh.trans t3.hh, fun _ n => .inl n⟩) (hd K _ _ _ r3)
theorem ev_un {r : V → Hp → VK → Prop} (ha : EvD K ta G a) (hr : Op1 K r a d) : EvD K (tUn r ta) G d := fun F0 H0 F H σ s Q q =>
  ha F0 H0 F H σ s _ fun v F1 H1 t1 r1 => hr F1 H1 v t1.fh r1 Q fun w F3 H3 t3 r3 => q w F3 H3 (t1.trans t3) r3
theorem ea_nil : EvA K tNil G [] := fun F0 H0 F H σ s Q q => q [] F H (Step.refl s.fh) rfl
theorem ea_cons (h : EvD K te G d) (hr : EvA K tr G ds) : EvA K (tCons te tr) G (d :: ds) := fun F0 H0 F H σ s Q q =>
  h F0 H0 F H σ s _ fun v F1 H1 t1 r1 => hr F0 H0 F1 H1 σ (s.step t1) _ fun vs F2 H2 t2 r2 => q (v :: vs) F2 H2 (t1.trans t2) (Reps.cons (Rep.mono t2.ff _ _ r1) r2)
theorem ev_tup (h : EvA K tr G ds) (hl : ds.length ≤ sizeLine) : EvD K (tTup tr) G (.tup ds) := fun F0 H0 F H σ s Q q =>
  h F0 H0 F H σ s _ fun vs F1 H1 t1 r1 => ⟨by rw [Reps.len r1]; exact hl, fun p hp => q _ (upd F1 p (.tup vs)) _ (t1.trans (Step.newF t1.fh hp)) ⟨p, vs, rfl, .inl (.inl upd_same), Reps.mono (same_new (t1.fh.free hp)) _ _ r1⟩⟩
theorem en_lst (h : EvA K tr G ds) (hl : ds.length ≤ sizeLine) : EvN K (tLst tr) G ds := fun F0 H0 F H σ s Q q =>
  h F0 H0 F H σ s _ fun vs F1 H1 t1 r1 => ⟨by rw [Reps.len r1]; exact hl, fun p hp => q p vs F1 _ (t1.trans (Step.newP t1.fh hp)) (t1.hh.free hp) (t1.fh.free hp) upd_same r1⟩
theorem ev_cb {r : List V → Hp → VK → Prop} (h : EvA K tr G ds) (hr : OpA K r ds d) : EvD K (tCB r tr) G d := fun F0 H0 F H σ s Q q =>
  h F0 H0 F H σ s _ fun vs F1 H1 t1 r1 => hr F1 H1 vs t1.fh r1 Q fun w F3 H3 t3 r3 => q w F3 H3 (t1.trans t3) r3
/-- .. of one argument that is looked at -/
theorem ev_cbS {r : List V → Hp → VK → Prop} (h : EvH K te G a) (hr : OpA K r [a] d) (hd : Scal d) : EvD K (tCB r (tCons te tNil)) G d := fun F0 H0 F H σ s Q q =>
  h F0 H0 F H σ s _ fun v F1 H1 t1 r1 => hr H1 H1 [v] (Same.refl _) (Reps.one r1) Q fun w F3 H3 t3 r3 => q w F1 H3 (t1.trans ⟨Same.refl _, t3.hh, t1.fh.trans t3.hh, fun _ n => .inl n⟩) (hd K _ _ _ r3)
theorem en_cb {r : List V → Hp → VK → Prop} (h : EvA K tr G ds) (hr : OpAN K r ds es) : EvN K (tCB r tr) G es := fun F0 H0 F H σ s Q q =>
  h F0 H0 F H σ s _ fun vs F1 H1 t1 r1 => hr F1 H1 vs t1.fh r1 Q fun p us F3 H3 t3 h1 h2 h3 r3 => q p us F3 H3 (t1.trans t3) (t1.hh.free h1) h2 h3 r3

/-! ### tests -/
theorem eb_val {b : Bool} (h : EvD K te G (.bl b)) : EvB K (tB te) G b := fun F0 H0 F H σ s Q q => h F0 H0 F H σ s _ fun v F1 H1 t1 r1 => ⟨b, r1, q F1 H1 t1⟩
theorem eb_test {b : Bool} (h : EvD K te G (.bl b)) : EvB K (tTest te) G b := fun F0 H0 F H σ s Q q => h F0 H0 F H σ s _ fun v F1 H1 t1 r1 => ⟨b, r1, q F1 H1 t1⟩
theorem eb_and {x y : Bool} (h : EvB K tt G x) (k : x = true → EvB K tu G y) : EvB K (tAnd tt tu) G (x && y) := fun F0 H0 F H σ s Q q => h F0 H0 F H σ s _ fun F1 H1 t1 => by
  cases x with
  | true => exact iteT (k rfl F0 H0 F1 H1 σ (s.step t1) _ fun F2 H2 t2 => q F2 H2 (t1.trans t2))
  | false => exact iteF (q F1 H1 t1)
theorem eb_or {x y : Bool} (h : EvB K tt G x) (k : x = false → EvB K tu G y) : EvB K (tOr tt tu) G (x || y) := fun F0 H0 F H σ s Q q => h F0 H0 F H σ s _ fun F1 H1 t1 => by
  cases x with
  | true => exact iteT (q F1 H1 t1)
  | false => exact iteF (k rfl F0 H0 F1 H1 σ (s.step t1) _ fun F2 H2 t2 => q F2 H2 (t1.trans t2))
theorem eb_not {x : Bool} (h : EvB K tt G x) : EvB K (tNot tt) G (!x) := fun F0 H0 F H σ s Q q => h F0 H0 F H σ s _ fun F1 H1 t1 => q F1 H1 t1
theorem eb_yes : EvB K tYes G true := fun F0 H0 F H σ s Q q => q F H (Step.refl s.fh)
theorem ev_andV {x y : Bool} (h : EvD K ta G (.bl x)) (k : x = true → EvD K tb G (.bl y)) : EvD K (tAndV ta tb) G (.bl (x && y)) := fun F0 H0 F H σ s Q q => h F0 H0 F H σ s _ fun v F1 H1 t1 r1 => by
  cases x with
  | true => exact ⟨true, r1, iteT (k rfl F0 H0 F1 H1 σ (s.step t1) _ fun u F2 H2 t2 r2 => q u F2 H2 (t1.trans t2) r2)⟩
  | false => exact ⟨false, r1, iteF (q _ F1 H1 t1 rfl)⟩
theorem ev_orV {x y : Bool} (h : EvD K ta G (.bl x)) (k : x = false → EvD K tb G (.bl y)) : EvD K (tOrV ta tb) G (.bl (x || y)) := fun F0 H0 F H σ s Q q => h F0 H0 F H σ s _ fun v F1 H1 t1 r1 => by
  cases x with
  | true => exact ⟨true, r1, iteT (q _ F1 H1 t1 rfl)⟩
  | false => exact ⟨false, r1, iteF (k rfl F0 H0 F1 H1 σ (s.step t1) _ fun u F2 H2 t2 r2 => q u F2 H2 (t1.trans t2) r2)⟩
theorem ev_notV {x : Bool} (h : EvD K ta G (.bl x)) : EvD K (tNotV ta) G (.bl (!x)) := fun F0 H0 F H σ s Q q => h F0 H0 F H σ s _ fun v F1 H1 t1 r1 => ⟨x, r1, q _ F1 H1 t1 rfl⟩
theorem ev_if {x : Bool} (h : EvB K tt G x) (k : x = true → EvD K ta G d) (l : x = false → EvD K tb G d) : EvD K (tIf tt ta tb) G d := fun F0 H0 F H σ s Q q => h F0 H0 F H σ s _ fun F1 H1 t1 => by
  cases x with
  | true => exact iteT (k rfl F0 H0 F1 H1 σ (s.step t1) _ fun u F2 H2 t2 r2 => q u F2 H2 (t1.trans t2) r2)
  | false => exact iteF (l rfl F0 H0 F1 H1 σ (s.step t1) _ fun u F2 H2 t2 r2 => q u F2 H2 (t1.trans t2) r2)
theorem en_if {x : Bool} (h : EvB K tt G x) (k : x = true → EvN K ta G ds) (l : x = false → EvN K tb G ds) : EvN K (tIf tt ta tb) G ds := fun F0 H0 F H σ s Q q => h F0 H0 F H σ s _ fun F1 H1 t1 => by
  cases x with
  | true => exact iteT (k rfl F0 H0 F1 H1 σ (s.step t1) _ fun p us F2 H2 t2 h1 h2 h3 r2 => q p us F2 H2 (t1.trans t2) (t1.hh.free h1) h2 h3 r2)
  | false => exact iteF (l rfl F0 H0 F1 H1 σ (s.step t1) _ fun p us F2 H2 t2 h1 h2 h3 r2 => q p us F2 H2 (t1.trans t2) (t1.hh.free h1) h2 h3 r2)
theorem eo_no : EvO K tNoPart G none := fun F0 H0 F H σ s Q q => q F H (Step.refl s.fh)
theorem eo_some {i : Int} (h : EvD K te G (.int i)) : EvO K (tPart te) G (some i) := fun F0 H0 F H σ s Q q => h F0 H0 F H σ s _ fun v F1 H1 t1 r1 => ⟨i, r1, q F1 H1 t1⟩

/-! ### ints -/
theorem op_I0 {g : Int → Int → V} {i j : Int} (h : ∀ F, Rep K F d (g i j)) : Op2 K (rI0 g) (.int i) (.int j) d := fun F H x y s hx hy Q q => by
  cases hx
  cases hy
  exact ⟨i, j, rfl, rfl, q _ F H (Step.refl s) (h F)⟩
theorem op_I {C : Int → Int → Prop} {g : Int → Int → V} {i j : Int} (hc : C i j) (h : ∀ F, Rep K F d (g i j)) : Op2 K (rI C g) (.int i) (.int j) d := fun F H x y s hx hy Q q => by
  cases hx
  cases hy
  exact ⟨i, j, rfl, rfl, hc, q _ F H (Step.refl s) (h F)⟩
theorem ev_add {i j : Int} (ha : EvD K ta G (.int i)) (hb : EvD K tb G (.int j)) : EvD K (tOp (rI0 fun i j => .int (i + j)) ta tb) G (.int (i + j)) := ev_op ha hb (op_I0 fun _ => rfl)
theorem ev_sub {i j : Int} (ha : EvD K ta G (.int i)) (hb : EvD K tb G (.int j)) : EvD K (tOp (rI0 fun i j => .int (i - j)) ta tb) G (.int (i - j)) := ev_op ha hb (op_I0 fun _ => rfl)
theorem ev_lt {i j : Int} (ha : EvD K ta G (.int i)) (hb : EvD K tb G (.int j)) : EvD K (tOp (rI0 fun i j => .bl (decide (i < j))) ta tb) G (.bl (decide (i < j))) := ev_op ha hb (op_I0 fun _ => rfl)
theorem ev_le {i j : Int} (ha : EvD K ta G (.int i)) (hb : EvD K tb G (.int j)) : EvD K (tOp (rI0 fun i j => .bl (decide (i ≤ j))) ta tb) G (.bl (decide (i ≤ j))) := ev_op ha hb (op_I0 fun _ => rfl)
theorem ev_gt {i j : Int} (ha : EvD K ta G (.int i)) (hb : EvD K tb G (.int j)) : EvD K (tOp (rI0 fun i j => .bl (decide (j < i))) ta tb) G (.bl (decide (j < i))) := ev_op ha hb (op_I0 fun _ => rfl)
theorem ev_ge {i j : Int} (ha : EvD K ta G (.int i)) (hb : EvD K tb G (.int j)) : EvD K (tOp (rI0 fun i j => .bl (decide (j ≤ i))) ta tb) G (.bl (decide (j ≤ i))) := ev_op ha hb (op_I0 fun _ => rfl)
theorem ev_mulS {i j : Int} (hc : CMul i j) (ha : EvD K ta G (.int i)) (hb : EvD K tb G (.int j)) : EvD K (tOp (rI CMul fun i j => .int (i * j)) ta tb) G (.int (i * j)) := ev_op ha hb (op_I hc fun _ => rfl)
theorem ev_mod {i j : Int} (hc : 0 < j) (ha : EvD K ta G (.int i)) (hb : EvD K tb G (.int j)) : EvD K (tOp (rI (fun _ j => 0 < j) fun i j => .int (i % j)) ta tb) G (.int (i % j)) := ev_op ha hb (op_I hc fun _ => rfl)
theorem ev_fdiv {i j : Int} (hc : CDiv i j) (ha : EvD K ta G (.int i)) (hb : EvD K tb G (.int j)) : EvD K (tOp (rI CDiv fun i j => .int (i / j)) ta tb) G (.int (i / j)) := ev_op ha hb (op_I hc fun _ => rfl)
theorem ev_neg {i : Int} (ha : EvD K ta G (.int i)) : EvD K (tUn (rU fun i => .int (-i)) ta) G (.int (-i)) := ev_un ha fun F H x s hx Q q => by
  cases hx
  exact ⟨i, rfl, q _ F H (Step.refl s) rfl⟩
/-- == of ints, bools, None, texts -/
def sc : D → Option V
  | .non => some .non
  | .bl b => some (.bl b)
  | .int i => some (.int i)
  | .str x => some (.str x)
  | _ => none
theorem sc_rep {F : Hp} {v u : V} (h : sc d = some v) (r : Rep K F d u) : u = v := by
  cases d <;> first
    | (cases h; exact r)
    | cases h
theorem ev_eqI {i j : Int} (ha : EvD K ta G (.int i)) (hb : EvD K tb G (.int j)) : EvD K (tOp rEq ta tb) G (.bl (decide (i = j))) := ev_op ha hb fun F H x y s hx hy Q q => by
  cases hx
  cases hy
  exact ⟨rfl, q _ F H (Step.refl s) (by show V.bl _ = V.bl _; congr 1; exact decide_eq_decide.mpr ⟨fun h => V.int.inj h, fun h => by rw [h]⟩)⟩
theorem ev_neI {i j : Int} (ha : EvD K ta G (.int i)) (hb : EvD K tb G (.int j)) : EvD K (tOp rNe ta tb) G (.bl (!decide (i = j))) := ev_op ha hb fun F H x y s hx hy Q q => by
  cases hx
  cases hy
  exact ⟨rfl, q _ F H (Step.refl s) (by show V.bl _ = V.bl _; congr 2; exact decide_eq_decide.mpr ⟨fun h => V.int.inj h, fun h => by rw [h]⟩)⟩

/-! ### lists -/
theorem ev_ixL {xs : List D} {j : Int} (h : atI xs j = some d) (ha : EvD K ta G (.lst xs)) (hb : EvD K tb G (.int j)) : EvD K (tOp (rIxL K) ta tb) G d := ev_op ha hb fun F H x y s hx hy Q q => by
  obtain ⟨p, vs, rfl, h1, h2⟩ := hx
  cases hy
  obtain ⟨k, hk, hd⟩ : ∃ k, ixN xs.length j = some k ∧ xs[k]? = some d := by
    unfold atI at h
    cases z : ixN xs.length j with
    | none => rw [z] at h; cases h
    | some k => rw [z] at h; exact ⟨k, rfl, h⟩
  obtain ⟨v, hv, r⟩ := h2.get hd
  refine ⟨p, vs, j, v, rfl, rfl, .inl (.inl (s _ _ h1)), ?_, q v F H (Step.refl s) r⟩
  unfold atI
  rw [h2.len, hk]
  exact hv
theorem ev_ixT {xs : List D} {j : Int} (h : atI xs j = some d) (ha : EvD K ta G (.tup xs)) (hb : EvD K tb G (.int j)) : EvD K (tOp (rIxT K) ta tb) G d := ev_op ha hb fun F H x y s hx hy Q q => by
  obtain ⟨p, vs, rfl, h1, h2⟩ := hx
  cases hy
  obtain ⟨k, hk, hd⟩ : ∃ k, ixN xs.length j = some k ∧ xs[k]? = some d := by
    unfold atI at h
    cases z : ixN xs.length j with
    | none => rw [z] at h; cases h
    | some k => rw [z] at h; exact ⟨k, rfl, h⟩
  obtain ⟨v, hv, r⟩ := h2.get hd
  refine ⟨p, vs, j, v, rfl, rfl, sqT_mono s h1, ?_, q v F H (Step.refl s) r⟩
  unfold atI
  rw [h2.len, hk]
  exact hv
/-- an item of a list of one's own -/
theorem ev_ixO {i : Nat} {xs : List D} {j : Int} (hi : G[i]? = some (.own xs)) (h : atI xs j = some d) (hb : EvD K tb G (.int j)) : EvD K (tOp (rIxL K) (tVar i) tb) G d := fun F0 H0 F H σ s Q q => by
  obtain ⟨p, vs, e, h1, h2, h3, h4⟩ := s.own hi
  refine ⟨.ref p, e, hb F0 H0 F H σ s _ fun y F1 H1 t1 r1 => ?_⟩
  cases r1
  obtain ⟨k, hk, hd⟩ : ∃ k, ixN xs.length j = some k ∧ xs[k]? = some d := by
    unfold atI at h
    cases z : ixN xs.length j with
    | none => rw [z] at h; cases h
    | some k => rw [z] at h; exact ⟨k, rfl, h⟩
  obtain ⟨v, hv, r⟩ := h4.get hd
  refine ⟨p, vs, j, v, rfl, rfl, .inl (.inl (t1.hh _ _ h1)), ?_, q v F1 H1 t1 (Rep.mono t1.ff _ _ r)⟩
  unfold atI
  rw [h4.len, hk]
  exact hv
theorem en_op {r : R2} {xs : List D} (ha : EvD K ta G a) (hb : EvD K tb G b)
    (hr : ∀ F H x y, Same F H → Rep K F a x → Rep K F b y → ∀ Q : VK, (∀ p vs, H p = none → Reps K F xs vs → Q (.ref p) (upd H p (.lst vs))) → r x y H Q) : EvN K (tOp r ta tb) G xs := fun F0 H0 F H σ s Q q =>
  ha F0 H0 F H σ s _ fun v F1 H1 t1 r1 => hb F0 H0 F1 H1 σ (s.step t1) _ fun u F2 H2 t2 r2 => hr F2 H2 v u t2.fh (Rep.mono t2.ff _ _ r1) r2 Q fun p vs hp r3 =>
    q p vs F2 _ ((t1.trans t2).trans (Step.newP t2.fh hp)) ((t1.trans t2).hh.free hp) (t2.fh.free hp) upd_same r3
theorem en_cat {xs ys : List D} (hl : xs.length + ys.length ≤ sizeLine) (ha : EvD K ta G (.lst xs)) (hb : EvD K tb G (.lst ys)) : EvN K (tOp rCat ta tb) G (xs ++ ys) := en_op ha hb fun F H x y s hx hy Q q => by
  obtain ⟨p, vs, rfl, h1, h2⟩ := hx
  obtain ⟨p', us, rfl, k1, k2⟩ := hy
  exact ⟨p, p', vs, us, rfl, rfl, s _ _ h1, s _ _ k1, by rw [h2.len, k2.len]; exact hl, fun z hz => q z _ hz (h2.app k2)⟩
theorem Reps.rep {F : Hp} {v : V} (h : Rep K F d v) : ∀ n : Nat, Reps K F (List.replicate n d) (List.replicate n v)
  | 0 => rfl
  | n + 1 => Reps.cons h (Reps.rep h n)
/-- [x] * n -/
theorem en_rep1 {n : Int} (hn : n ≤ sizeLine ∧ -(2 ^ 63) ≤ n) (ha : EvD K ta G (.lst [a])) (hb : EvD K tb G (.int n)) : EvN K (tOp rRep ta tb) G (List.replicate n.toNat a) := en_op ha hb fun F H x y s hx hy Q q => by
  obtain ⟨p, vs, rfl, h1, h2⟩ := hx
  cases hy
  obtain ⟨v, r, rfl, h3, h4⟩ := h2
  cases h4
  have z : (sizeLine : Int) < 2 ^ 63 := by decide
  refine ⟨p, n, [v], rfl, rfl, s _ _ h1, hn.2, by omega, by simp; omega, fun z hz => ?_⟩
  have e : (List.flatten (List.replicate n.toNat [v])) = List.replicate n.toNat v := by
    induction n.toNat with
    | zero => rfl
    | succ m ih => rw [List.replicate_succ, List.flatten_cons, ih]; rfl
  first
    | (rw [e]; exact q z _ hz (Reps.rep h3 _))
    | (have := q z _ hz (Reps.rep h3 n.toNat); simpa using this)
theorem oa_len {xs : List D} : OpA K (fun xs H Q => ∃ p ys, xs = [V.ref p] ∧ (SqL K H p ys ∨ SqT K H p ys) ∧ Q (.int ys.length) H) [.lst xs] (.int xs.length) := fun F H vs s hx Q q => by
  obtain ⟨v, r, rfl, h1, h2⟩ := hx
  cases h2
  obtain ⟨p, us, rfl, h3, h4⟩ := h1
  exact ⟨p, us, rfl, .inl (.inl (.inl (s _ _ h3))), q _ F H (Step.refl s) (by show V.int _ = V.int _; rw [h4.len])⟩
theorem oa_lenT {xs : List D} : OpA K (fun xs H Q => ∃ p ys, xs = [V.ref p] ∧ (SqL K H p ys ∨ SqT K H p ys) ∧ Q (.int ys.length) H) [.tup xs] (.int xs.length) := fun F H vs s hx Q q => by
  obtain ⟨v, r, rfl, h1, h2⟩ := hx
  cases h2
  obtain ⟨p, us, rfl, h3, h4⟩ := h1
  exact ⟨p, us, rfl, .inr (sqT_mono s h3), q _ F H (Step.refl s) (by show V.int _ = V.int _; rw [h4.len])⟩
theorem ev_len {xs : List D} (h : EvH K ta G (.lst xs)) : EvD K (tCB (fun xs H Q => ∃ p ys, xs = [V.ref p] ∧ (SqL K H p ys ∨ SqT K H p ys) ∧ Q (.int ys.length) H) (tCons ta tNil)) G (.int xs.length) := ev_cbS h oa_len scal_int
theorem ev_lenT {xs : List D} (h : EvH K ta G (.tup xs)) : EvD K (tCB (fun xs H Q => ∃ p ys, xs = [V.ref p] ∧ (SqL K H p ys ∨ SqT K H p ys) ∧ Q (.int ys.length) H) (tCons ta tNil)) G (.int xs.length) := ev_cbS h oa_lenT scal_int
theorem en_listof {xs : List D} (h : EvD K ta G (.lst xs)) : EvN K (tCB (fun xs H Q => ∃ p ys, xs = [V.ref p] ∧ (SqL K H p ys ∨ SqT K H p ys) ∧ ∀ l, H l = none → Q (.ref l) (upd H l (.lst ys))) (tCons ta tNil)) G xs := en_cb (ea_cons h ea_nil) fun F H vs s hx Q q => by
  obtain ⟨v, r, rfl, h1, h2⟩ := hx
  cases h2
  obtain ⟨p, us, rfl, h3, h4⟩ := h1
  exact ⟨p, us, rfl, .inl (.inl (.inl (s _ _ h3))), fun l hl => q l us F _ (Step.newP s hl) hl (s.free hl) upd_same h4⟩
theorem en_listofT {xs : List D} (h : EvD K ta G (.tup xs)) : EvN K (tCB (fun xs H Q => ∃ p ys, xs = [V.ref p] ∧ (SqL K H p ys ∨ SqT K H p ys) ∧ ∀ l, H l = none → Q (.ref l) (upd H l (.lst ys))) (tCons ta tNil)) G xs := en_cb (ea_cons h ea_nil) fun F H vs s hx Q q => by
  obtain ⟨v, r, rfl, h1, h2⟩ := hx
  cases h2
  obtain ⟨p, us, rfl, h3, h4⟩ := h1
  exact ⟨p, us, rfl, .inr (sqT_mono s h3), fun l hl => q l us F _ (Step.newP s hl) hl (s.free hl) upd_same h4⟩
theorem en_rev {xs : List D} (h : EvD K ta G (.lst xs)) : EvN K (tRevL K ta) G xs.reverse := fun F0 H0 F H σ s Q q => h F0 H0 F H σ s _ fun v F1 H1 t1 r1 => by
  obtain ⟨p, us, rfl, h3, h4⟩ := r1
  exact ⟨p, us, rfl, .inl (.inl (t1.fh _ _ h3)), fun l hl => q l _ F1 _ (t1.trans (Step.newP t1.fh hl)) (t1.hh.free hl) (t1.fh.free hl) upd_same h4.rev⟩
def cutD (xs : List D) (lo hi : Option Int) : List D := (xs.drop (HT.sIx xs.length 0 lo)).take (HT.sIx xs.length xs.length hi - HT.sIx xs.length 0 lo)
theorem en_slice {tl th : TO} {xs : List D} {lo hi : Option Int} (h : EvD K ta G (.lst xs)) (h1 : EvO K tl G lo) (h2 : EvO K th G hi) : EvN K (tSl (rSlL K) ta tl th) G (cutD xs lo hi) := fun F0 H0 F H σ s Q q =>
  h F0 H0 F H σ s _ fun v F1 H1 t1 r1 => h1 F0 H0 F1 H1 σ (s.step t1) _ fun F2 H2 t2 => h2 F0 H0 F2 H2 σ ((s.step t1).step t2) _ fun F3 H3 t3 => by
    obtain ⟨p, us, rfl, h3, h4⟩ := r1
    have t := t2.trans t3
    refine ⟨p, us, rfl, .inl (.inl (t.hh _ _ (t1.fh _ _ h3))), fun l hl => q l _ F3 _ ((t1.trans t).trans (Step.newP t3.fh hl)) ((t1.trans t).hh.free hl) (t3.fh.free hl) upd_same ?_⟩
    have h5 := Reps.mono t.ff _ _ h4
    unfold cutV cutD
    rw [h5.len]
    exact (h5.drop _).take _
theorem ev_tupOf {xs : List D} (h : EvD K ta G (.lst xs)) : EvD K (tCB (fun xs H Q => ∃ p ys, xs = [V.ref p] ∧ ((SqL K H p ys ∧ ∀ l, H l = none → Q (.ref l) (upd H l (.tup ys))) ∨ (SqT K H p ys ∧ Q (.ref p) H))) (tCons ta tNil)) G (.tup xs) := ev_cb (ea_cons h ea_nil) fun F H vs s hx Q q => by
  obtain ⟨v, r, rfl, h1, h2⟩ := hx
  cases h2
  obtain ⟨p, us, rfl, h3, h4⟩ := h1
  exact ⟨p, us, rfl, .inl ⟨.inl (.inl (s _ _ h3)), fun l hl => q (.ref l) (upd F l (.tup us)) _ (Step.newF s hl) ⟨l, us, rfl, .inl (.inl upd_same), Reps.mono (same_new (s.free hl)) _ _ h4⟩⟩⟩
theorem oa_max {i j : Int} : OpA K (fun xs H Q => ∃ i j, xs = [V.int i, V.int j] ∧ Q (.int (if j > i then j else i)) H) [.int i, .int j] (.int (max i j)) := fun F H vs s hx Q q => by
  obtain ⟨v, r, rfl, h1, u, r', rfl, h2, h3⟩ := hx
  cases h1
  cases h2
  cases h3
  exact ⟨i, j, rfl, q _ F H (Step.refl s) (by show V.int _ = V.int _; congr 1; omega)⟩
theorem oa_min {i j : Int} : OpA K (fun xs H Q => ∃ i j, xs = [V.int i, V.int j] ∧ Q (.int (if j < i then j else i)) H) [.int i, .int j] (.int (min i j)) := fun F H vs s hx Q q => by
  obtain ⟨v, r, rfl, h1, u, r', rfl, h2, h3⟩ := hx
  cases h1
  cases h2
  cases h3
  exact ⟨i, j, rfl, q _ F H (Step.refl s) (by show V.int _ = V.int _; congr 1; omega)⟩
theorem oa_int {i : Int} : OpA K (fun xs H Q => (∃ i, xs = [V.int i] ∧ Q (.int i) H) ∨ ∃ k, xs = [V.bl k] ∧ Q (.int (if k then 1 else 0)) H) [.int i] (.int i) := fun F H vs s hx Q q => by
  obtain ⟨v, r, rfl, h1, h3⟩ := hx
  cases h1
  cases h3
  exact .inl ⟨i, rfl, q _ F H (Step.refl s) rfl⟩
theorem oa_intB {k : Bool} : OpA K (fun xs H Q => (∃ i, xs = [V.int i] ∧ Q (.int i) H) ∨ ∃ k, xs = [V.bl k] ∧ Q (.int (if k then 1 else 0)) H) [.bl k] (.int (if k then 1 else 0)) := fun F H vs s hx Q q => by
  obtain ⟨v, r, rfl, h1, h3⟩ := hx
  cases h1
  cases h3
  exact .inr ⟨k, rfl, q _ F H (Step.refl s) rfl⟩
theorem Reps.ints {F : Hp} : ∀ {ns : List Int} {vs : List V}, Reps K F (ns.map D.int) vs → vs = ns.map V.int
  | [], _, h => h
  | n :: ns, _, h => by
    obtain ⟨v, r, rfl, h1, h2⟩ := h
    cases h1
    rw [Reps.ints h2]
    rfl
theorem Reps.ofInts {F : Hp} : ∀ {ns : List Int}, Reps K F (ns.map D.int) (ns.map V.int)
  | [] => rfl
  | n :: ns => ⟨.int n, _, rfl, rfl, Reps.ofInts⟩
theorem oa_sum {ns : List Int} : OpA K (rSum K) [.lst (ns.map D.int)] (.int ns.sum) := fun F H vs s hx Q q => by
  obtain ⟨v, r, rfl, h1, h2⟩ := hx
  cases h2
  obtain ⟨p, us, rfl, h3, h4⟩ := h1
  have e := h4.ints
  subst e
  exact ⟨p, ns, rfl, .inl (.inl (s _ _ h3)), q _ F H (Step.refl s) rfl⟩
end
end Cw
set_option maxHeartbeats 4000000
namespace Cw
open PySem PySem.Spec PyProof.Rows L2
/-! ### targets -/
section
variable (K : Fg)
def TgD (g : TG) (d : D) (G G' : Ctx) (is : List Nat) : Prop := ∀ F0 H0 F H σ x, SOk K F0 H0 F H σ G → Rep K F d x → ∀ Q : L2.St → Hp → Prop, (∀ σ', SOk K F0 H0 F H σ' G' → σ'.length = σ.length → (∀ i : Nat, i ∉ is → σ'[i]? = σ[i]?) → Q σ' H) → g x σ H Q
def TgDs (g : TGs) (ds : List D) (G G' : Ctx) (is : List Nat) : Prop := ∀ F0 H0 F H σ xs, SOk K F0 H0 F H σ G → Reps K F ds xs → ∀ Q : L2.St → Hp → Prop, (∀ σ', SOk K F0 H0 F H σ' G' → σ'.length = σ.length → (∀ i : Nat, i ∉ is → σ'[i]? = σ[i]?) → Q σ' H) → g xs σ H Q
/-- how a statement ends -/
inductive Out where
  | nx (G : Ctx) | rt (d : D) | bk (G : Ctx) | ct (G : Ctx) | lp (G : Ctx)
def OutOk (F0 H0 F : Hp) (E : Ends) : Out → Prop
  | .nx G => ∀ σ F' H', SOk K F0 H0 F' H' σ G → Same F F' → E.nx σ H'
  | .rt d => ∀ v F' H', Step F0 H0 F' H' → Same F F' → Rep K F' d v → E.rt v H'
  | .bk G => ∀ σ F' H', SOk K F0 H0 F' H' σ G → Same F F' → E.bk σ H'
  | .ct G => ∀ σ F' H', SOk K F0 H0 F' H' σ G → Same F F' → E.ct σ H'
  | .lp G => ∀ σ F' H', SOk K F0 H0 F' H' σ G → Same F F' → E.nx σ H' ∧ E.ct σ H'
def StD (t : TS) (G : Ctx) (o : Out) : Prop := ∀ F0 H0 F H σ (E : Ends), SOk K F0 H0 F H σ G → OutOk K F0 H0 F E o → t E σ H
end
section
variable {K : Fg} {G G' G1 G2 : Ctx} {te ta tb tc : TE} {tt tu : TT} {tr : TA} {t u r : TS} {d e a b c : D} {ds es : List D} {o : Out}
theorem OutOk.mono {F0 H0 F F' : Hp} {E : Ends} (s : Same F F') (h : OutOk K F0 H0 F E o) : OutOk K F0 H0 F' E o := by
  cases o with
  | nx G => exact fun σ F2 H2 a b => h σ F2 H2 a (s.trans b)
  | rt d => exact fun v F2 H2 a b c => h v F2 H2 a (s.trans b) c
  | bk G => exact fun σ F2 H2 a b => h σ F2 H2 a (s.trans b)
  | ct G => exact fun σ F2 H2 a b => h σ F2 H2 a (s.trans b)
  | lp G => exact fun σ F2 H2 a b => h σ F2 H2 a (s.trans b)
theorem tg_name {i : Nat} : TgD K (gName i) d G (G.set i (.val d)) [i] := fun F0 H0 F H σ x s r Q q =>
  q _ (s.set r) (by rw [List.length_set]) fun j hj => List.getElem?_set_ne (fun z => hj (by simp [z]))
theorem tgs_nil : TgDs K gNil [] G G [] := fun F0 H0 F H σ x s r Q q => ⟨r, q σ s rfl fun _ _ => rfl⟩
theorem tgs_cons {g : TG} {gs : TGs} {is js : List Nat} (h : TgD K g d G G1 is) (k : TgDs K gs ds G1 G2 js) : TgDs K (gCons g gs) (d :: ds) G G2 (is ++ js) := fun F0 H0 F H σ x s r Q q => by
  obtain ⟨v, xs, rfl, h1, h2⟩ := r
  exact ⟨v, xs, rfl, h F0 H0 F H σ v s h1 _ fun σ1 s1 l1 p1 => k F0 H0 F H σ1 xs s1 h2 _ fun σ2 s2 l2 p2 => q σ2 s2 (l2.trans l1) fun i hi => (p2 i fun z => hi (List.mem_append_right _ z)).trans (p1 i fun z => hi (List.mem_append_left _ z))⟩
theorem tg_tup {n : Nat} {gs : TGs} {is : List Nat} (k : TgDs K gs ds G G1 is) (hn : ds.length = n) : TgD K (gTup K n gs) (.tup ds) G G1 is := fun F0 H0 F H σ x s r Q q => by
  obtain ⟨p, vs, rfl, h1, h2⟩ := r
  exact ⟨p, vs, rfl, sqT_mono s.fh h1, by rw [h2.len]; exact hn, k F0 H0 F H σ vs s h2 Q q⟩

/-! ### statements -/
theorem StD.lp (h : StD K t G (.nx G')) : StD K t G (.lp G') := fun F0 H0 F H σ E s q => h F0 H0 F H σ E s fun σ' F' H' a b => (q σ' F' H' a b).1
theorem StD.clp (h : StD K t G (.ct G')) : StD K t G (.lp G') := fun F0 H0 F H σ E s q => h F0 H0 F H σ E s fun σ' F' H' a b => (q σ' F' H' a b).2
theorem st_seq (h : StD K t G (.nx G1)) (k : StD K u G1 o) : StD K (tSeq t u) G o := fun F0 H0 F H σ E s q =>
  h F0 H0 F H σ _ s fun σ' F' H' a b => k F0 H0 F' H' σ' E a (q.mono b)
theorem st_seqR (h : StD K t G (.rt d)) : StD K (tSeq t u) G (.rt d) := fun F0 H0 F H σ E s q => h F0 H0 F H σ _ s q
theorem st_seqB (h : StD K t G (.bk G1)) : StD K (tSeq t u) G (.bk G1) := fun F0 H0 F H σ E s q => h F0 H0 F H σ _ s q
theorem st_seqC (h : StD K t G (.ct G1)) : StD K (tSeq t u) G (.ct G1) := fun F0 H0 F H σ E s q => h F0 H0 F H σ _ s q
theorem st_nil : StD K tNext G (.nx G) := fun F0 H0 F H σ E s q => q σ F H s (Same.refl _)
theorem st_nilW (w : Weak G G') : StD K tNext G (.nx G') := fun F0 H0 F H σ E s q => q σ F H (s.weak w) (Same.refl _)
theorem st_weak (w : Weak G G') (h : StD K t G' o) : StD K t G o := fun F0 H0 F H σ E s q => h F0 H0 F H σ E (s.weak w) q
theorem StD.weak (h : StD K t G (.nx G1)) (w : Weak G1 G2) : StD K t G (.nx G2) := fun F0 H0 F H σ E s q => h F0 H0 F H σ E s fun σ' F' H' a b => q σ' F' H' (a.weak w) b
theorem st_brk : StD K tBreak G (.bk G) := fun F0 H0 F H σ E s q => q σ F H s (Same.refl _)
theorem st_cont : StD K tCont G (.ct G) := fun F0 H0 F H σ E s q => q σ F H s (Same.refl _)
theorem st_pub {i : Nat} (hi : G[i]? = some (.own ds)) (h : StD K t (G.set i (.val (.lst ds))) o) : StD K t G o := fun F0 H0 F H σ E s q => by
  obtain ⟨F', sf, s'⟩ := s.pub hi
  exact h F0 H0 F' H σ E s' (q.mono sf)
theorem st_asg {g : TG} {is : List Nat} (h : EvD K te G d) (k : TgD K g d G G1 is) : StD K (tAsg te g) G (.nx G1) := fun F0 H0 F H σ E s q =>
  h F0 H0 F H σ s _ fun v F1 H1 t1 r1 => k F0 H0 F1 H1 σ v (s.step t1) r1 _ fun σ' s' _ _ => q σ' F1 H1 s' t1.ff
theorem st_set {i : Nat} (h : EvD K te G d) : StD K (tAsg te (gName i)) G (.nx (G.set i (.val d))) := st_asg h tg_name
theorem SOk.nown {F0 H0 F H F' H' : Hp} {σ : L2.St} (s : SOk K F0 H0 F H σ G) {p : Addr} (hp : H p = none) {l : PvK} (j : Nat) (es : List D) (e : G[j]? = some (.prv l es)) : σ[j]? ≠ some (some (.ref p)) := by
  intro z
  obtain ⟨a, vs, h1, h2, _⟩ := s.prv e
  have : V.ref a = V.ref p := Option.some.inj (Option.some.inj (h1.symm.trans z))
  cases this
  rw [hp] at h2
  cases h2
theorem st_setN {i : Nat} (h : EvN K te G ds) : StD K (tAsg te (gName i)) G (.nx (G.set i (.own ds))) := fun F0 H0 F H σ E s q =>
  h F0 H0 F H σ s _ fun p vs F1 H1 t1 hp hf hv r1 => q _ F1 H1 ((s.step t1).setOwn hv hf (s.st.hh.free hp) r1 fun j es e => s.nown (F' := F) (H' := H) hp j es e) t1.ff
theorem st_ret (h : EvD K te G d) : StD K (tRet te) G (.rt d) := fun F0 H0 F H σ E s q => h F0 H0 F H σ s _ fun v F1 H1 t1 r1 => q v F1 H1 (s.st.trans t1) t1.ff r1
theorem st_retN : StD K tRetN G (.rt .non) := fun F0 H0 F H σ E s q => q .non F H s.st (Same.refl _) rfl
/-- a list of one's own is handed back -/
theorem st_retO {i : Nat} (hi : G[i]? = some (.own ds)) : StD K (tRet (tVar i)) G (.rt (.lst ds)) := st_pub hi (st_ret (ev_var (by
  have := (List.getElem?_eq_some_iff.mp hi).1
  rw [List.getElem?_set_self this])))
theorem st_drop (h : EvD K te G d) : StD K (tDrop te) G (.nx G) := fun F0 H0 F H σ E s q => h F0 H0 F H σ s _ fun v F1 H1 t1 r1 => q σ F1 H1 (s.step t1) t1.ff
theorem st_if {x : Bool} (h : EvB K tt G x) (k : x = true → StD K t G o) (l : x = false → StD K u G o) : StD K (tIfS tt t u) G o := fun F0 H0 F H σ E s q => h F0 H0 F H σ s _ fun F1 H1 t1 => by
  cases x with
  | true => exact iteT (k rfl F0 H0 F1 H1 σ E (s.step t1) (q.mono t1.ff))
  | false => exact iteF (l rfl F0 H0 F1 H1 σ E (s.step t1) (q.mono t1.ff))
theorem st_ifS {x : Bool} (h : EvB K tt G x) (k : x = true → StD K (tSeq t r) G o) (l : x = false → StD K (tSeq u r) G o) : StD K (tSeq (tIfS tt t u) r) G o := fun F0 H0 F H σ E s q => h F0 H0 F H σ s _ fun F1 H1 t1 => by
  cases x with
  | true => exact iteT (k rfl F0 H0 F1 H1 σ E (s.step t1) (q.mono t1.ff))
  | false => exact iteF (l rfl F0 H0 F1 H1 σ E (s.step t1) (q.mono t1.ff))
theorem st_seqN (h : StD K r G o) : StD K (tSeq tNext r) G o := st_seq st_nil h
/-! in place -/
theorem st_app {i : Nat} {xs : List D} (hi : G[i]? = some (.own xs)) (hl : xs.length < sizeLine) (h : EvD K te G d) : StD K (tDrop (tBM K "list" rAppend (tVar i) (tCons te tNil))) G (.nx (G.set i (.own (xs ++ [d])))) := fun F0 H0 F H σ E s q => by
  obtain ⟨p, vs, e, h1, h2, h3, h4⟩ := s.own hi
  refine ⟨.ref p, e, .inl ⟨rfl, _, .inl (.inl h1)⟩, h F0 H0 F H σ s _ fun y F1 H1 t1 r1 => ?_⟩
  have s1 := s.step t1
  exact ⟨p, vs, y, rfl, rfl, t1.hh _ _ h1, by rw [h4.len]; exact hl, q σ F1 _ (s1.mutOwn hi e ((Reps.mono t1.ff _ _ h4).app (Reps.one r1))) t1.ff⟩
theorem Reps.dropLast {F : Hp} {vs : List V} (h : Reps K F ds vs) : Reps K F ds.dropLast vs.dropLast := by
  rw [List.dropLast_eq_take, List.dropLast_eq_take, h.len]
  exact h.take _
theorem st_pop {i : Nat} {xs : List D} (hi : G[i]? = some (.own xs)) (hl : xs ≠ []) : StD K (tDrop (tBM0 K "list" rPop (tVar i))) G (.nx (G.set i (.own xs.dropLast))) := fun F0 H0 F H σ E s q => by
  obtain ⟨p, vs, e, h1, h2, h3, h4⟩ := s.own hi
  have hv : vs.length - 1 < vs.length := by
    rw [h4.len]
    have := List.length_pos_iff.mpr hl
    omega
  exact ⟨.ref p, e, .inl ⟨rfl, _, .inl (.inl h1)⟩, p, vs, vs[vs.length - 1], rfl, rfl, h1, List.getElem?_eq_getElem hv, q σ F _ (s.mutOwn hi e h4.dropLast) (Same.refl _)⟩
theorem st_setI {i k : Nat} {xs : List D} {tj : TE} {j : Int} (hi : G[i]? = some (.own xs)) (hk : ixN xs.length j = some k) (h : EvD K te G d) (hj : EvD K tj G (.int j)) : StD K (tAsg te (gSub (tVar i) tj rSetL)) G (.nx (G.set i (.own (xs.set k d)))) := fun F0 H0 F H σ E s q => by
  obtain ⟨p, vs, e, h1, h2, h3, h4⟩ := s.own hi
  refine h F0 H0 F H σ s _ fun y F1 H1 t1 r1 => ⟨.ref p, e, hj F0 H0 F1 H1 σ (s.step t1) _ fun z F2 H2 t2 r2 => ?_⟩
  cases r2
  have t := t1.trans t2
  exact ⟨p, vs, j, k, rfl, rfl, t.hh _ _ h1, by rw [h4.len]; exact hk, q σ F2 _ ((s.step t).mutOwn hi e ((Reps.mono t.ff _ _ h4).set k (Rep.mono t2.ff _ _ r1))) t.ff⟩

/-! ### several at once: values and new lists -/
def MOk (K : Fg) (Hs F H : Hp) : Sl → V → Prop
  | .un, _ => True
  | .val d, v => Rep K F d v
  | .prv k ds, v => ∃ p vs, v = .ref p ∧ H p = some (k.ho vs) ∧ F p = none ∧ Hs p = none ∧ Reps K F ds vs
theorem MOk.step {Hs F H F' H' : Hp} {s : Sl} {v : V} (h : MOk K Hs F H s v) (t : Step F H F' H') : MOk K Hs F' H' s v := by
  cases s with
  | un => trivial
  | val d => exact Rep.mono t.ff _ _ h
  | prv k ds =>
    obtain ⟨p, vs, rfl, h1, h2, h3, h4⟩ := h
    obtain ⟨k1, k2⟩ := t.kp h1 h2 (ho_ne k)
    exact ⟨p, vs, rfl, k1, k2, h3, Reps.mono t.ff _ _ h4⟩
theorem MOk.back {Hs Hs' F H : Hp} {s : Sl} {v : V} (h : MOk K Hs' F H s v) (t : Same Hs Hs') : MOk K Hs F H s v := by
  cases s with
  | un => trivial
  | val d => exact h
  | prv k ds =>
    obtain ⟨p, vs, rfl, h1, h2, h3, h4⟩ := h
    exact ⟨p, vs, rfl, h1, h2, t.free h3, h4⟩
/-- one place: a value or a new list -/
def EvM (K : Fg) (te : TE) (G : Ctx) (s : Sl) : Prop := ∀ F0 H0 F H σ, SOk K F0 H0 F H σ G → ∀ Q : VK, (∀ v F' H', Step F H F' H' → MOk K H F' H' s v → Q v H') → te σ H Q
theorem em_v (h : EvD K te G d) : EvM K te G (.val d) := h
theorem em_n (h : EvN K te G ds) : EvM K te G (.own ds) := fun F0 H0 F H σ s Q q => h F0 H0 F H σ s Q fun p vs F' H' t h1 h2 h3 r => q _ F' H' t ⟨p, vs, rfl, h3, h2, h1, r⟩
/-- a place taken by such a thing -/
theorem SOk.setM {F0 H0 F H Hs : Hp} {σ : L2.St} (s : SOk K F0 H0 F H σ G) {i : Nat} {c : Sl} {v : V} (m : MOk K Hs F H c v) (h0 : Same H0 Hs) (hc : c ≠ .un)
    (new : ∀ {l : PvK} (p : Addr), v = .ref p → Hs p = none → ∀ (j : Nat) (es : List D), G[j]? = some (.prv l es) → σ[j]? ≠ some (some (.ref p))) : SOk K F0 H0 F H (σ.set i (some v)) (G.set i c) := by
  cases c with
  | un => exact absurd rfl hc
  | val d => exact s.set m
  | prv k ds =>
    obtain ⟨p, vs, rfl, h1, h2, h3, h4⟩ := m
    exact s.setPrv h1 h2 (h0.free h3) h4 (new p rfl h3)
theorem own_set {σ : L2.St} {i : Nat} {c : Sl} {v : V} {p : Addr} (hv : v ≠ .ref p) (n : ∀ {l : PvK} (j : Nat) (es : List D), G[j]? = some (.prv l es) → σ[j]? ≠ some (some (.ref p))) (hl : σ.length = G.length) :
    ∀ {l : PvK} (j : Nat) (es : List D), (G.set i c)[j]? = some (.prv l es) → (σ.set i (some v))[j]? ≠ some (some (.ref p)) := fun j es e z => by
  rcases get_set e with ⟨rfl, _, h1⟩ | ⟨h1, h2⟩
  · rw [List.getElem?_set_self (by rw [hl]; exact h1)] at z
    exact hv (Option.some.inj (Option.some.inj z))
  · rw [List.getElem?_set_ne h1] at z
    exact n j es h2 z
theorem mok_ne {Hs F H : Hp} {c : Sl} {v : V} {p : Addr} {k : PvK} {es : List D} (m : MOk K Hs F H c v) {H1 : Hp} (hp : H1 p = none) (hs : Same Hs H1) (hc : c = .prv k es) (hH : ∀ q o, H q = some o → Hs q = none → H1 q = some o) : v ≠ .ref p := by
  subst hc
  obtain ⟨q, vs, rfl, h1, h2, h3, h4⟩ := m
  intro z
  cases z
  rw [hH _ _ h1 h3] at hp
  cases hp
theorem st_par {i j : Nat} {c1 c2 : Sl} (h1 : EvM K ta G c1) (h2 : EvM K tb G c2) (n1 : c1 ≠ .un) (n2 : c2 ≠ .un) (ne : i ≠ j) : StD K (tPar i j (tCons ta (tCons tb tNil))) G (.nx ((G.set i c1).set j c2)) := fun F0 H0 F H σ E s q =>
  h1 F0 H0 F H σ s _ fun v1 F1 H1 t1 m1 => h2 F0 H0 F1 H1 σ (s.step t1) _ fun v2 F2 H2 t2 m2 => by
    refine ⟨v1, v2, rfl, ?_⟩
    have t := t1.trans t2
    have s2 := s.step t
    have sA := s2.setM (i := i) (m1.step t2) s.st.hh n1 fun p _ hp k es e => s.nown (F' := F) (H' := H) hp k es e
    refine q _ F2 H2 (sA.setM (i := j) m2 (s.st.hh.trans t1.hh) n2 fun p hv hp k es e z => ?_) t.ff
    rcases get_set e with ⟨rfl, ec, hl⟩ | ⟨nk, e'⟩
    · rw [List.getElem?_set_self (by rw [s2.len]; exact hl)] at z
      have zv : v1 = .ref p := Option.some.inj (Option.some.inj z)
      rw [← ec] at m1
      obtain ⟨a, vs, rfl, g1, g2, g3, g4⟩ := m1
      cases zv
      rw [g1] at hp
      cases hp
    · rw [List.getElem?_set_ne nk] at z
      exact (s.step t1).nown (F' := F) (H' := H) hp k es e' z
theorem st_par3 {i j l : Nat} {c1 c2 c3 : Sl} (h1 : EvM K ta G c1) (h2 : EvM K tb G c2) (h3 : EvM K tc G c3) (n1 : c1 ≠ .un) (n2 : c2 ≠ .un) (n3 : c3 ≠ .un) (nij : i ≠ j) (nil : i ≠ l) (njl : j ≠ l) : StD K (tPar3 i j l (tCons ta (tCons tb (tCons tc tNil)))) G (.nx (((G.set i c1).set j c2).set l c3)) := fun F0 H0 F H σ E s q =>
  h1 F0 H0 F H σ s _ fun v1 F1 H1 t1 m1 => h2 F0 H0 F1 H1 σ (s.step t1) _ fun v2 F2 H2 t2 m2 => h3 F0 H0 F2 H2 σ ((s.step t1).step t2) _ fun v3 F3 H3 t3 m3 => by
    refine ⟨v1, v2, v3, rfl, ?_⟩
    have t := (t1.trans t2).trans t3
    have s3 := s.step t
    have sA := s3.setM (i := i) (m1.step (t2.trans t3)) s.st.hh n1 fun p _ hp k es e => s.nown (F' := F) (H' := H) hp k es e
    have sB := sA.setM (i := j) (m2.step t3) (s.st.hh.trans t1.hh) n2 fun p hv hp k es e z => by
      rcases get_set e with ⟨rfl, ec, hl⟩ | ⟨nk, e'⟩
      · rw [List.getElem?_set_self (by rw [s3.len]; exact hl)] at z
        have zv : v1 = .ref p := Option.some.inj (Option.some.inj z)
        rw [← ec] at m1
        obtain ⟨a, vs, rfl, g1, g2, g3, g4⟩ := m1
        cases zv
        rw [g1] at hp
        cases hp
      · rw [List.getElem?_set_ne nk] at z
        exact (s.step t1).nown (F' := F) (H' := H) hp k es e' z
    refine q _ F3 H3 (sB.setM (i := l) m3 ((s.st.hh.trans t1.hh).trans t2.hh) n3 fun p hv hp k es e z => ?_) t.ff
    rcases get_set e with ⟨rfl, ec, hl⟩ | ⟨nk, e'⟩
    · rw [List.getElem?_set_self (by rw [List.length_set, s3.len]; simpa using hl)] at z
      have zv : v2 = .ref p := Option.some.inj (Option.some.inj z)
      rw [← ec] at m2
      obtain ⟨a, vs, rfl, g1, g2, g3, g4⟩ := m2
      cases zv
      rw [g1] at hp
      cases hp
    · rw [List.getElem?_set_ne nk] at z
      rcases get_set e' with ⟨rfl, ec, hl⟩ | ⟨nk2, e''⟩
      · rw [List.getElem?_set_self (by rw [s3.len]; exact hl)] at z
        have zv : v1 = .ref p := Option.some.inj (Option.some.inj z)
        rw [← ec] at m1
        obtain ⟨a, vs, rfl, g1, g2, g3, g4⟩ := m1
        cases zv
        have := t2.hh _ _ g1
        rw [this] at hp
        cases hp
      · rw [List.getElem?_set_ne nk2] at z
        exact ((s.step t1).step t2).nown (F' := F) (H' := H) hp k es e'' z
end
end Cw
set_option maxHeartbeats 4000000
namespace Cw
open PySem PySem.Spec PyProof.Rows L2
section
variable {K : Fg} {G G' G1 G2 : Ctx} {te ta tb tc : TE} {tt tu : TT} {tr : TA} {t u r : TS} {d e a b c : D} {ds es : List D} {o : Out}
/-! ### a, b = x, y by a tuple (names that a comprehension reads) -/
theorem par_two {F0 H0 F H F1 H1 F2 H2 F3 H3 : Hp} {σ : L2.St} {v1 v2 : V} {c1 c2 : Sl} {i j : Nat} (s : SOk K F0 H0 F H σ G) (t1 : Step F H F1 H1) (t2 : Step F1 H1 F2 H2) (t3 : Step F2 H2 F3 H3) (m1 : MOk K H F1 H1 c1 v1) (m2 : MOk K H1 F2 H2 c2 v2)
    (n1 : c1 ≠ .un) (n2 : c2 ≠ .un) : SOk K F0 H0 F3 H3 ((σ.set i (some v1)).set j (some v2)) ((G.set i c1).set j c2) := by
  have s3 := s.step ((t1.trans t2).trans t3)
  have sA := s3.setM (i := i) (m1.step (t2.trans t3)) s.st.hh n1 fun p _ hp k es e => s.nown (F' := F) (H' := H) hp k es e
  refine sA.setM (i := j) (m2.step t3) (s.st.hh.trans t1.hh) n2 fun p hv hp k es e z => ?_
  rcases get_set e with ⟨rfl, ec, hl⟩ | ⟨nk, e'⟩
  · rw [List.getElem?_set_self (by rw [s3.len]; exact hl)] at z
    have zv : v1 = .ref p := Option.some.inj (Option.some.inj z)
    rw [← ec] at m1
    obtain ⟨a, vs, rfl, g1, g2, g3, g4⟩ := m1
    cases zv
    rw [g1] at hp
    cases hp
  · rw [List.getElem?_set_ne nk] at z
    exact (s.step t1).nown (F' := F) (H' := H) hp k es e' z
theorem st_parT {i j : Nat} {c1 c2 : Sl} (h1 : EvM K ta G c1) (h2 : EvM K tb G c2) (n1 : c1 ≠ .un) (n2 : c2 ≠ .un) : StD K (tAsg (tTup (tCons ta (tCons tb tNil))) (gTup K 2 (gCons (gName i) (gCons (gName j) gNil)))) G (.nx ((G.set i c1).set j c2)) := fun F0 H0 F H σ E s q =>
  h1 F0 H0 F H σ s _ fun v1 F1 H1 t1 m1 => h2 F0 H0 F1 H1 σ (s.step t1) _ fun v2 F2 H2 t2 m2 => by
    refine ⟨by show 2 ≤ sizeLine; decide, fun p hp => ?_⟩
    have t3 : Step F2 H2 F2 (upd H2 p (.tup [v1, v2])) := Step.newP t2.fh hp
    exact ⟨p, [v1, v2], rfl, .inl (.inl upd_same), rfl, v1, [v2], rfl, v2, [], rfl, rfl, q _ F2 _ (par_two s t1 t2 t3 m1 m2 n1 n2) (t1.trans t2).ff⟩
theorem st_parT3 {i j l : Nat} (h1 : EvD K ta G a) (h2 : EvD K tb G b) (h3 : EvD K tc G c) : StD K (tAsg (tTup (tCons ta (tCons tb (tCons tc tNil)))) (gTup K 3 (gCons (gName i) (gCons (gName j) (gCons (gName l) gNil))))) G (.nx (((G.set i (.val a)).set j (.val b)).set l (.val c))) :=
  st_asg (ev_tup (ea_cons h1 (ea_cons h2 (ea_cons h3 ea_nil))) (by show 3 ≤ sizeLine; decide)) (tg_tup (tgs_cons tg_name (tgs_cons tg_name (tgs_cons tg_name tgs_nil))) rfl)
/-- a, b = f(..) -/
theorem st_unp2 {i j : Nat} (h : EvD K te G (.tup [a, b])) : StD K (tAsg te (gTup K 2 (gCons (gName i) (gCons (gName j) gNil)))) G (.nx ((G.set i (.val a)).set j (.val b))) :=
  st_asg h (tg_tup (tgs_cons tg_name (tgs_cons tg_name tgs_nil)) rfl)
theorem st_unp3 {i j l : Nat} (h : EvD K te G (.tup [a, b, c])) : StD K (tAsg te (gTup K 3 (gCons (gName i) (gCons (gName j) (gCons (gName l) gNil))))) G (.nx (((G.set i (.val a)).set j (.val b)).set l (.val c))) :=
  st_asg h (tg_tup (tgs_cons tg_name (tgs_cons tg_name (tgs_cons tg_name tgs_nil))) rfl)
theorem st_unp5 {i j l m n : Nat} (h : EvD K te G (.tup [a, b, c, d, e])) : StD K (tAsg te (gTup K 5 (gCons (gName i) (gCons (gName j) (gCons (gName l) (gCons (gName m) (gCons (gName n) gNil))))))) G (.nx (((((G.set i (.val a)).set j (.val b)).set l (.val c)).set m (.val d)).set n (.val e))) :=
  st_asg h (tg_tup (tgs_cons tg_name (tgs_cons tg_name (tgs_cons tg_name (tgs_cons tg_name (tgs_cons tg_name tgs_nil))))) rfl)

/-! ### for -/
theorem take_snoc {α : Type} : ∀ (l : List α) (i : Nat) (h : i < l.length), l.take i ++ [l[i]] = l.take (i + 1)
  | [], i, h => by simp at h
  | a :: l, 0, h => rfl
  | a :: l, i + 1, h => by
    show a :: (l.take i ++ [l[i]'(by simpa using h)]) = a :: l.take (i + 1)
    rw [take_snoc l i (by simpa using h)]
theorem st_for {α S : Type} {wi : TI} {g : TG} {as : List α} {enc : α → D} {Gs : S → Ctx} {step : S → α → S} {s0 : S} (hi : ItD K wi (Gs s0) (as.map enc))
    (hb : ∀ pre x post, as = pre ++ x :: post → ∃ Gt is, TgD K g (enc x) (Gs (pre.foldl step s0)) Gt is ∧ StD K t Gt (.lp (Gs (step (pre.foldl step s0) x)))) : StD K (tFor wi g t) (Gs s0) (.nx (Gs (as.foldl step s0))) := fun F0 H0 F H σ E s q => by
  refine hi F0 H0 F H σ s _ fun J F1 H1 t1 w => ?_
  refine ⟨fun i m σ' H' => m = as.length - i ∧ i ≤ as.length ∧ ∃ F', SOk K F0 H0 F' H' σ' (Gs ((as.take i).foldl step s0)) ∧ Same F1 F', ⟨as.length, rfl, Nat.zero_le _, F1, s.step t1, Same.refl _⟩, ?_⟩
  rintro i m σ' H' ⟨rfl, hi, F', s', sf⟩
  obtain ⟨w1, w2⟩ := w F' H' sf s'.fh
  by_cases hlt : i < as.length
  · have hx : (as.map enc)[i]? = some (enc as[i]) := by rw [List.getElem?_map, List.getElem?_eq_getElem hlt]; rfl
    obtain ⟨go, yl⟩ := w1 i _ hx
    have e1 : as = as.take i ++ as[i] :: as.drop (i + 1) := by rw [List.getElem_cons_drop]; exact (List.take_append_drop i as).symm
    obtain ⟨Gt, is, tg, bd⟩ := hb _ _ _ e1
    have e2 : (as.take (i + 1)).foldl step s0 = step ((as.take i).foldl step s0) as[i] := by rw [← take_snoc as i hlt, List.foldl_append]; rfl
    refine .inr ⟨go, fun σ2 H2 => ∃ F2, SOk K F0 H0 F2 H2 σ2 (Gs ((as.take (i + 1)).foldl step s0)) ∧ Same F1 F2, fun σ2 H2 ⟨F2, p1, p2⟩ => ⟨as.length - (i + 1), by omega, rfl, hlt, F2, p1, p2⟩, fun x H2 y => ?_⟩
    obtain ⟨F2, t2, r2⟩ := yl x H2 y
    refine tg F0 H0 F2 H2 σ' x (s'.step t2) r2 _ fun σ3 s3 _ _ => ?_
    rw [e2]
    refine bd F0 H0 F2 H2 σ3 _ s3 fun σ4 F4 H4 s4 f4 => ?_
    have : Same F1 F4 := (sf.trans t2.ff).trans f4
    exact ⟨⟨F4, s4, this⟩, ⟨F4, s4, this⟩⟩
  · have e : i = as.length := by omega
    subst e
    rw [List.take_length] at s'
    exact .inl ⟨w2 _ (by simp), q σ' F' H' s' (t1.ff.trans sf)⟩
/-- a loop that is left by a return at the item x -/
theorem st_forR {α S : Type} {wi : TI} {g : TG} {as : List α} {enc : α → D} {Gs : S → Ctx} {step : S → α → S} {s0 : S} {pre post : List α} {x : α} (ea : as = pre ++ x :: post) (hi : ItD K wi (Gs s0) (as.map enc))
    (hb : ∀ pr y ps, pre = pr ++ y :: ps → ∃ Gt is, TgD K g (enc y) (Gs (pr.foldl step s0)) Gt is ∧ StD K t Gt (.lp (Gs (step (pr.foldl step s0) y))))
    (hr : ∃ Gt is, TgD K g (enc x) (Gs (pre.foldl step s0)) Gt is ∧ StD K t Gt (.rt d)) : StD K (tFor wi g t) (Gs s0) (.rt d) := fun F0 H0 F H σ E s q => by
  refine hi F0 H0 F H σ s _ fun J F1 H1 t1 w => ?_
  refine ⟨fun i m σ' H' => m = as.length - i ∧ i ≤ pre.length ∧ ∃ F', SOk K F0 H0 F' H' σ' (Gs ((pre.take i).foldl step s0)) ∧ Same F1 F', ⟨as.length, rfl, Nat.zero_le _, F1, s.step t1, Same.refl _⟩, ?_⟩
  rintro i m σ' H' ⟨rfl, hi, F', s', sf⟩
  obtain ⟨w1, w2⟩ := w F' H' sf s'.fh
  by_cases hlt : i < pre.length
  · have hx : (as.map enc)[i]? = some (enc pre[i]) := by rw [List.getElem?_map, ea, List.getElem?_append_left hlt, List.getElem?_eq_getElem hlt]; rfl
    obtain ⟨go, yl⟩ := w1 i _ hx
    have e1 : pre = pre.take i ++ pre[i] :: pre.drop (i + 1) := by rw [List.getElem_cons_drop]; exact (List.take_append_drop i pre).symm
    obtain ⟨Gt, is, tg, bd⟩ := hb _ _ _ e1
    have e2 : (pre.take (i + 1)).foldl step s0 = step ((pre.take i).foldl step s0) pre[i] := by rw [← take_snoc pre i hlt, List.foldl_append]; rfl
    have hlen : i < as.length := by rw [ea, List.length_append]; omega
    refine .inr ⟨go, fun σ2 H2 => ∃ F2, SOk K F0 H0 F2 H2 σ2 (Gs ((pre.take (i + 1)).foldl step s0)) ∧ Same F1 F2, fun σ2 H2 ⟨F2, p1, p2⟩ => ⟨as.length - (i + 1), by omega, rfl, hlt, F2, p1, p2⟩, fun x H2 y => ?_⟩
    obtain ⟨F2, t2, r2⟩ := yl x H2 y
    refine tg F0 H0 F2 H2 σ' x (s'.step t2) r2 _ fun σ3 s3 _ _ => ?_
    rw [e2]
    refine bd F0 H0 F2 H2 σ3 _ s3 fun σ4 F4 H4 s4 f4 => ?_
    have : Same F1 F4 := (sf.trans t2.ff).trans f4
    exact ⟨⟨F4, s4, this⟩, ⟨F4, s4, this⟩⟩
  · have e : i = pre.length := by omega
    subst e
    rw [List.take_length] at s'
    have hx : (as.map enc)[pre.length]? = some (enc x) := by rw [List.getElem?_map, ea, List.getElem?_append_right (Nat.le_refl _), Nat.sub_self]; rfl
    obtain ⟨go, yl⟩ := w1 _ _ hx
    obtain ⟨Gt, is, tg, bd⟩ := hr
    refine .inr ⟨go, fun _ _ => False, fun _ _ z => z.elim, fun y H2 z => ?_⟩
    obtain ⟨F2, t2, r2⟩ := yl y H2 z
    exact tg F0 H0 F2 H2 σ' y (s'.step t2) r2 _ fun σ3 s3 _ _ => bd F0 H0 F2 H2 σ3 _ s3 fun v F4 H4 s4 f4 r4 => q v F4 H4 s4 (((t1.ff.trans sf).trans t2.ff).trans f4) r4

/-! ### while -/
def whileN {S : Type} (c : S → Bool) (f : S → S) : Nat → S → S
  | 0, s => s
  | n + 1, s => if c s = true then whileN c f n (f s) else s
theorem st_while {S : Type} {Gs : S → Ctx} {cd : S → Bool} {f : S → S} {Iv : S → Prop} {μ : S → Nat} (n : Nat) {s0 : S} (hn : μ s0 ≤ n) (h0 : Iv s0) (hc : ∀ s, Iv s → EvB K tt (Gs s) (cd s))
    (hb : ∀ s, Iv s → cd s = true → StD K t (Gs s) (.lp (Gs (f s))) ∧ Iv (f s) ∧ μ (f s) < μ s) : StD K (tWhile tt t) (Gs s0) (.nx (Gs (whileN cd f n s0))) := fun F0 H0 F H σ E s q => by
  refine ⟨fun m σ' H' => ∃ (s : S) (k : Nat) (F' : Hp), m = μ s ∧ Iv s ∧ μ s ≤ k ∧ whileN cd f k s = whileN cd f n s0 ∧ SOk K F0 H0 F' H' σ' (Gs s) ∧ Same F F', ⟨μ s0, s0, n, F, rfl, h0, hn, rfl, s, Same.refl _⟩, ?_⟩
  rintro m σ' H' ⟨s1, k, F', rfl, i1, hk, e1, s', sf⟩
  refine hc s1 i1 F0 H0 F' H' σ' s' _ fun F2 H2 t2 => ?_
  cases z : cd s1 with
  | true =>
    obtain ⟨b1, b2, b3⟩ := hb s1 i1 z
    cases k with
    | zero => omega
    | succ k =>
      refine iteT ⟨fun σ3 H3 => ∃ F3, SOk K F0 H0 F3 H3 σ3 (Gs (f s1)) ∧ Same F F3, fun σ3 H3 ⟨F3, p1, p2⟩ => ⟨μ (f s1), b3, f s1, k, F3, rfl, b2, by omega, ?_, p1, p2⟩, ?_⟩
      · rw [← e1]
        show _ = (if cd s1 = true then whileN cd f k (f s1) else s1)
        rw [if_pos z]
      · exact b1 F0 H0 F2 H2 σ' _ (s'.step t2) fun σ4 F4 H4 s4 f4 => ⟨⟨F4, s4, (sf.trans t2.ff).trans f4⟩, ⟨F4, s4, (sf.trans t2.ff).trans f4⟩⟩
  | false =>
    have e2 : whileN cd f k s1 = s1 := by
      cases k with
      | zero => rfl
      | succ k =>
        show (if cd s1 = true then whileN cd f k (f s1) else s1) = s1
        rw [if_neg (by rw [z]; exact Bool.false_ne_true)]
    rw [e2] at e1
    subst e1
    exact iteF (q σ' F2 H2 (s'.step t2) (sf.trans t2.ff))

/-! ### iterators -/
theorem it_list {tl : TE} (h : EvD K tl G (.lst ds)) : ItD K (iList K tl) G ds := fun F0 H0 F H σ s R q => h F0 H0 F H σ s _ fun v F1 H1 t1 r1 => by
  obtain ⟨a, vs, rfl, h1, h2⟩ := r1
  refine ⟨a, rfl, ⟨vs, .inl (.inl (t1.fh _ _ h1))⟩, q _ F1 H1 t1 fun F2 H2 f2 g2 => ⟨fun i d hd => ?_, fun i hi => ⟨vs, .inl (.inl (g2 _ _ (f2 _ _ h1))), by rw [h2.len]; exact hi⟩⟩⟩
  obtain ⟨x, hx, rx⟩ := h2.get hd
  have hs : SqL K H2 a vs := .inl (.inl (g2 _ _ (f2 _ _ h1)))
  refine ⟨⟨vs, x, hs, hx⟩, fun y H3 hy => ?_⟩
  obtain ⟨rfl, hy⟩ := hy
  have := hy vs hs
  rw [hx] at this
  cases this
  exact ⟨F2, Step.refl g2, Rep.mono f2 _ _ rx⟩
theorem it_tup {tl : TE} (h : EvD K tl G (.tup ds)) : ItD K (iTup K tl) G ds := fun F0 H0 F H σ s R q => h F0 H0 F H σ s _ fun v F1 H1 t1 r1 => by
  obtain ⟨a, vs, rfl, h1, h2⟩ := r1
  refine ⟨a, rfl, ⟨vs, sqT_mono t1.fh h1⟩, q _ F1 H1 t1 fun F2 H2 f2 g2 => ⟨fun i d hd => ?_, fun i hi => ⟨vs, sqT_mono (f2.trans g2) h1, by rw [h2.len]; exact hi⟩⟩⟩
  obtain ⟨x, hx, rx⟩ := h2.get hd
  have hs : SqT K H2 a vs := sqT_mono (f2.trans g2) h1
  refine ⟨⟨vs, x, hs, hx⟩, fun y H3 hy => ?_⟩
  obtain ⟨rfl, hy⟩ := hy
  have := hy vs hs
  rw [hx] at this
  cases this
  exact ⟨F2, Step.refl g2, Rep.mono f2 _ _ rx⟩
/-- lo, lo + c, .. -/
def rangeC (lo c : Int) (n : Nat) : List Int := (List.range n).map fun (k : Nat) => lo + (k : Int) * c
def rangeI (lo : Int) (n : Nat) : List Int := (List.range n).map fun (k : Nat) => lo + (k : Int)
theorem rangeI_get {lo : Int} {n i : Nat} (h : i < n) : (rangeI lo n)[i]? = some (lo + (i : Int)) := by
  unfold rangeI
  rw [List.getElem?_map, List.getElem?_range h]
  rfl
theorem rangeI_len {lo : Int} {n : Nat} : (rangeI lo n).length = n := by simp [rangeI]
theorem rangeC_len {lo c : Int} {n : Nat} : (rangeC lo c n).length = n := by simp [rangeC]
theorem rangeI_mem {lo : Int} {n : Nat} {x : Int} (h : x ∈ rangeI lo n) : lo ≤ x ∧ x < lo + n := by
  obtain ⟨k, hk, rfl⟩ := List.mem_map.mp h
  have := List.mem_range.mp hk
  omega
theorem walk_rng {F : Hp} {lo : Int} {n : Nat} : Walks K (Itr lo n) F ((rangeI lo n).map D.int) := fun F2 H2 f2 g2 => ⟨fun i d hd => by
  have hi : i < n := by
    have := (List.getElem?_eq_some_iff.mp hd).1
    simpa [rangeI] using this
  refine ⟨hi, fun x H3 hy => ?_⟩
  obtain ⟨rfl, rfl⟩ := hy
  rw [List.getElem?_map, rangeI_get hi] at hd
  cases hd
  exact ⟨F2, Step.refl g2, rfl⟩, fun i hi => by
  have : n ≤ i := by simpa [rangeI] using hi
  exact this⟩
theorem walk_rngC {F : Hp} {lo c : Int} {n : Nat} : Walks K (Itc lo c n) F ((rangeC lo c n).map D.int) := fun F2 H2 f2 g2 => ⟨fun i d hd => by
  have hi : i < n := by
    have := (List.getElem?_eq_some_iff.mp hd).1
    simpa [rangeC] using this
  refine ⟨hi, fun x H3 hy => ?_⟩
  obtain ⟨rfl, rfl⟩ := hy
  rw [List.getElem?_map] at hd
  unfold rangeC at hd
  rw [List.getElem?_map, List.getElem?_range hi] at hd
  cases hd
  exact ⟨F2, Step.refl g2, rfl⟩, fun i hi => by
  have : n ≤ i := by simpa [rangeC] using hi
  exact this⟩
theorem it_rng1 {n : Int} (hn : -(2 ^ 62) ≤ n ∧ n < 2 ^ 62) (h : EvD K ta G (.int n)) : ItD K (iRng1 (tCons ta tNil)) G ((rangeI 0 n.toNat).map D.int) := fun F0 H0 F H σ s R q => h F0 H0 F H σ s _ fun v F1 H1 t1 r1 => by
  cases r1
  exact ⟨n, rfl, hn.1, hn.2, q _ F1 H1 t1 walk_rng⟩
theorem it_rng2 {m n : Int} (hm : -(2 ^ 62) ≤ m ∧ m < 2 ^ 62 ∧ -(2 ^ 62) ≤ n ∧ n < 2 ^ 62) (h : EvD K ta G (.int m)) (h2 : EvD K tb G (.int n)) : ItD K (iRng2 (tCons ta (tCons tb tNil))) G ((rangeI m (n - m).toNat).map D.int) := fun F0 H0 F H σ s R q =>
  h F0 H0 F H σ s _ fun v F1 H1 t1 r1 => h2 F0 H0 F1 H1 σ (s.step t1) _ fun w F2 H2 t2 r2 => by
    cases r1
    cases r2
    exact ⟨m, n, rfl, hm, q _ F2 H2 (t1.trans t2) walk_rng⟩
theorem it_rng3 {m n l : Int} {k : Nat} (hk : RgC m n l k) (h : EvD K ta G (.int m)) (h2 : EvD K tb G (.int n)) (h3 : EvD K tc G (.int l)) : ItD K (iRng3 (tCons ta (tCons tb (tCons tc tNil)))) G ((rangeC m l k).map D.int) := fun F0 H0 F H σ s R q =>
  h F0 H0 F H σ s _ fun v F1 H1 t1 r1 => h2 F0 H0 F1 H1 σ (s.step t1) _ fun w F2 H2 t2 r2 => h3 F0 H0 F2 H2 σ ((s.step t1).step t2) _ fun x F3 H3 t3 r3 => by
    cases r1
    cases r2
    cases r3
    exact ⟨m, n, l, k, rfl, hk, q _ F3 H3 ((t1.trans t2).trans t3) walk_rngC⟩
/-- enumerate -/
def enumI {α : Type} (as : List α) : List (Int × α) := as.mapIdx fun i a => ((i : Int), a)
def encE {α : Type} (enc : α → D) (p : Int × α) : D := .tup [.int p.1, enc p.2]
theorem it_enum {α : Type} {as : List α} {enc : α → D} (h : EvD K ta G (.lst (as.map enc))) : ItD K (iEnum K (tCons ta tNil)) G ((enumI as).map (encE enc)) := fun F0 H0 F H σ s R q => h F0 H0 F H σ s _ fun v F1 H1 t1 r1 => by
  obtain ⟨a, vs, rfl, h1, h2⟩ := r1
  have hl := h2.len
  rw [List.length_map] at hl
  refine ⟨a, vs, rfl, .inl (.inl (t1.fh _ _ h1)), q _ F1 H1 t1 fun F2 H2 f2 g2 => ?_⟩
  have hs : SqL K H2 a vs := .inl (.inl (g2 _ _ (f2 _ _ h1)))
  refine ⟨fun i d hd => ?_, fun i hi => ⟨vs, hs, by rw [hl]; simpa [enumI] using hi⟩⟩
  rw [List.getElem?_map] at hd
  unfold enumI at hd
  rw [List.getElem?_mapIdx] at hd
  cases ei : as[i]? with
  | none => rw [ei] at hd; cases hd
  | some x0 =>
    rw [ei] at hd
    cases hd
    obtain ⟨x, hx, rx⟩ := h2.get (i := i) (d := enc x0) (by rw [List.getElem?_map, ei]; rfl)
    refine ⟨⟨vs, x, hs, hx⟩, fun y H3 hy => ?_⟩
    obtain ⟨T, x', rfl, hT, rfl, hy⟩ := hy
    have := hy vs hs
    rw [hx] at this
    cases this
    exact ⟨upd F2 T (.tup [.int (i : Nat), x]), Step.newF g2 hT, T, _, rfl, .inl (.inl upd_same), .int (i : Nat), [x], rfl, rfl, x, [], rfl, Rep.mono (f2.trans (same_new (g2.free hT))) _ _ rx, rfl⟩
def encZ {α β : Type} (ea : α → D) (eb : β → D) (p : α × β) : D := .tup [ea p.1, eb p.2]
theorem it_zip {α β : Type} {as : List α} {bs : List β} {ea : α → D} {eb : β → D} (h : EvD K ta G (.lst (as.map ea))) (h2 : EvD K tb G (.lst (bs.map eb))) : ItD K (iZip K (tCons ta (tCons tb tNil))) G ((as.zip bs).map (encZ ea eb)) := fun F0 H0 F H σ s R q =>
  h F0 H0 F H σ s _ fun v F1 H1 t1 r1 => h2 F0 H0 F1 H1 σ (s.step t1) _ fun w F2 H2 t2 r2 => by
    obtain ⟨a, vs, rfl, h1, h2⟩ := r1
    obtain ⟨b, ws, rfl, k1, k2⟩ := r2
    have hl := h2.len
    have kl := k2.len
    rw [List.length_map] at hl kl
    have h1' := t2.ff _ _ h1
    refine ⟨a, b, vs, ws, rfl, .inl (.inl (t2.fh _ _ h1')), .inl (.inl (t2.fh _ _ k1)), q _ F2 H2 (t1.trans t2) fun F3 H3 f3 g3 => ?_⟩
    have hs : SqL K H3 a vs := .inl (.inl (g3 _ _ (f3 _ _ h1')))
    have ks : SqL K H3 b ws := .inl (.inl (g3 _ _ (f3 _ _ k1)))
    refine ⟨fun i d hd => ?_, fun i hi => ⟨vs, ws, hs, ks, by simp at hi; omega⟩⟩
    rw [List.getElem?_map] at hd
    cases ez : (as.zip bs)[i]? with
    | none => rw [ez] at hd; cases hd
    | some p =>
      rw [ez] at hd
      cases hd
      obtain ⟨e1, e2⟩ := List.getElem?_zip_eq_some.mp ez
      obtain ⟨x, hx, rx⟩ := h2.get (i := i) (d := ea p.1) (by rw [List.getElem?_map, e1]; rfl)
      obtain ⟨y, hy, ry⟩ := k2.get (i := i) (d := eb p.2) (by rw [List.getElem?_map, e2]; rfl)
      refine ⟨⟨vs, ws, x, y, hs, ks, hx, hy⟩, fun z H4 hz => ?_⟩
      obtain ⟨T, x', y', rfl, hT, rfl, g1, g2⟩ := hz
      have z1 := g1 vs hs
      have z2 := g2 ws ks
      rw [hx] at z1
      rw [hy] at z2
      cases z1
      cases z2
      have sm := same_new (o := .tup [x, y]) (g3.free hT)
      exact ⟨upd F3 T (.tup [x, y]), Step.newF g3 hT, T, _, rfl, .inl (.inl upd_same), x, [y], rfl, Rep.mono ((t2.ff.trans f3).trans sm) _ _ rx, y, [], rfl, Rep.mono (f3.trans sm) _ _ ry, rfl⟩

/-! ### comprehensions -/
def wipeC (G : Ctx) : List Nat → Ctx
  | [] => G
  | v :: vs => (wipeC G vs).set v .un
theorem SOk.un {F0 H0 F H : Hp} {σ : L2.St} (s : SOk K F0 H0 F H σ G) (i : Nat) : SOk K F0 H0 F H (σ.set i none) (G.set i .un) where
  st := s.st
  len := by rw [List.length_set, List.length_set, s.len]
  sl := fun j c e => by
    rcases get_set e with ⟨rfl, rfl, hl⟩ | ⟨ne, e'⟩
    · exact ⟨none, by rw [List.getElem?_set_self (by rw [s.len]; exact hl)], trivial⟩
    · obtain ⟨o, h1, h2⟩ := s.sl j c e'
      exact ⟨o, by rw [List.getElem?_set_ne ne]; exact h1, h2⟩
  ap := fun j k ds es a e1 e2 h1 h2 => by
    rcases get_set e1 with ⟨_, q, _⟩ | ⟨n1, e1'⟩
    · cases q
    · rcases get_set e2 with ⟨_, q, _⟩ | ⟨n2, e2'⟩
      · cases q
      · rw [List.getElem?_set_ne n1] at h1
        rw [List.getElem?_set_ne n2] at h2
        exact s.ap j k ds es a e1' e2' h1 h2
theorem SOk.wipe {F0 H0 F H : Hp} {σ : L2.St} (s : SOk K F0 H0 F H σ G) : ∀ vs : List Nat, SOk K F0 H0 F H (L2.wipe σ vs) (wipeC G vs)
  | [] => s
  | v :: vs => (s.wipe vs).un v
theorem wipe_at {σ : L2.St} : ∀ {vs : List Nat} {i : Nat}, i < σ.length → (L2.wipe σ vs)[i]? = if i ∈ vs then some none else σ[i]?
  | [], i, h => by simp [L2.wipe]
  | v :: vs, i, h => by
    unfold L2.wipe
    by_cases q : v = i
    · subst q
      rw [List.getElem?_set_self (by rw [wipe_length]; exact h), if_pos (by simp)]
    · rw [List.getElem?_set_ne q, wipe_at h]
      have : (i ∈ v :: vs) ↔ i ∈ vs := by simp [Ne.symm q]
      simp only [this]
theorem wipe_back {σ σ2 : L2.St} {vs is : List Nat} (hl : σ2.length = (L2.wipe σ vs).length) (h : ∀ i : Nat, i ∉ is → σ2[i]? = (L2.wipe σ vs)[i]?) (sub : ∀ i ∈ is, i ∈ vs) : L2.wipe σ2 vs = L2.wipe σ vs := by
  have hl2 : σ2.length = σ.length := by rw [hl, wipe_length]
  apply List.ext_getElem?
  intro i
  by_cases hi : i < σ.length
  · rw [wipe_at (by rw [hl2]; exact hi), wipe_at hi]
    by_cases hv : i ∈ vs
    · rw [if_pos hv, if_pos hv]
    · rw [if_neg hv, if_neg hv, h i fun z => hv (sub i z), wipe_at hi, if_neg hv]
  · rw [List.getElem?_eq_none (by rw [wipe_length, hl2]; omega), List.getElem?_eq_none (by rw [wipe_length]; omega)]
/-- [e for x in xs if c] -/
theorem en_lc {α : Type} {wi : TI} {g : TG} {vs : List Nat} {as : List α} {enc : α → D} {cd : α → Bool} {f : α → D} (hl : as.length ≤ sizeLine) (hi : ItD K wi G (as.map enc))
    (hb : ∀ pre x post, as = pre ++ x :: post → ∃ Gt is, TgD K g (enc x) (wipeC G vs) Gt is ∧ (∀ i ∈ is, i ∈ vs) ∧ EvB K tt Gt (cd x) ∧ (cd x = true → EvD K te Gt (f x))) : EvN K (tLc wi g tt te vs) G ((as.filter cd).map f) := fun F0 H0 F H σ s Q q => by
  refine hi F0 H0 F H σ s _ fun J F1 H1 t1 w => fun D hD => ?_
  have s1 := s.step t1
  refine ⟨fun i m H' => m = as.length - i ∧ i ≤ as.length ∧ ∃ F' us, Step F1 H1 F' H' ∧ H' D = some (.lst us) ∧ F' D = none ∧ Reps K F' (((as.take i).filter cd).map f) us, ⟨as.length, rfl, Nat.zero_le _, F1, [], Step.newP t1.fh hD, upd_same, t1.fh.free hD, rfl⟩, ?_⟩
  rintro i m H' ⟨rfl, hi, F', us, t', hu, hf, ru⟩
  obtain ⟨w1, w2⟩ := w F' H' t'.ff t'.fh
  by_cases hlt : i < as.length
  · have hx : (as.map enc)[i]? = some (enc as[i]) := by rw [List.getElem?_map, List.getElem?_eq_getElem hlt]; rfl
    obtain ⟨go, yl⟩ := w1 i _ hx
    have e1 : as = as.take i ++ as[i] :: as.drop (i + 1) := by rw [List.getElem_cons_drop]; exact (List.take_append_drop i as).symm
    obtain ⟨Gt, is, tg, sub, ht, he⟩ := hb _ _ _ e1
    refine .inr ⟨go, fun H2 => ∃ F2 us, Step F1 H1 F2 H2 ∧ H2 D = some (.lst us) ∧ F2 D = none ∧ Reps K F2 (((as.take (i + 1)).filter cd).map f) us, fun H2 ⟨F2, us, p1, p2, p3, p4⟩ => ⟨as.length - (i + 1), by omega, rfl, hlt, F2, us, p1, p2, p3, p4⟩, fun x H2 y => ?_⟩
    obtain ⟨F2, t2, r2⟩ := yl x H2 y
    have tt2 := t'.trans t2
    refine tg F0 H0 F2 H2 _ x ((s1.step tt2).wipe vs) r2 _ fun σ3 s3 l3 p3 => ⟨wipe_back l3 p3 sub, ht F0 H0 F2 H2 σ3 s3 _ fun F3 H3 t3 => ?_⟩
    have e2 : as.take (i + 1) = as.take i ++ [as[i]] := (take_snoc as i hlt).symm
    have tt3 := t2.trans t3
    cases z : cd as[i] with
    | true =>
      refine iteT (he z F0 H0 F3 H3 σ3 (s3.step t3) _ fun v F4 H4 t4 r4 => ?_)
      have tt4 := tt3.trans t4
      obtain ⟨k1, k2⟩ := tt4.kp hu hf
      have hlen : us.length ≤ i := by
        rw [ru.len, List.length_map]
        refine Nat.le_trans (List.length_filter_le ..) ?_
        rw [List.length_take]
        omega
      refine ⟨us, k1, by omega, F4, us ++ [v], (t'.trans tt4).mutP hD k2, upd_same, k2, ?_⟩
      have e3 : (as.take i ++ [as[i]]).filter cd = (as.take i).filter cd ++ [as[i]] := by rw [List.filter_append]; simp [z]
      rw [e2, e3, List.map_append]
      exact (Reps.mono tt4.ff _ _ ru).app (Reps.one r4)
    | false =>
      refine iteF ?_
      obtain ⟨k1, k2⟩ := tt3.kp hu hf
      refine ⟨F3, us, t'.trans tt3, k1, k2, ?_⟩
      have e3 : (as.take i ++ [as[i]]).filter cd = (as.take i).filter cd := by rw [List.filter_append]; simp [z]
      rw [e2, e3]
      exact Reps.mono tt3.ff _ _ ru
  · have e : i = as.length := by omega
    subst e
    rw [List.take_length] at ru
    exact .inl ⟨w2 _ (by simp), q D us F' H' (t1.trans t') (t1.hh.free hD) hf hu ru⟩
theorem en_lcA {α : Type} {wi : TI} {g : TG} {vs : List Nat} {as : List α} {enc : α → D} {f : α → D} (hl : as.length ≤ sizeLine) (hi : ItD K wi G (as.map enc))
    (hb : ∀ pre x post, as = pre ++ x :: post → ∃ Gt is, TgD K g (enc x) (wipeC G vs) Gt is ∧ (∀ i ∈ is, i ∈ vs) ∧ EvD K te Gt (f x)) : EvN K (tLc wi g tYes te vs) G (as.map f) := by
  have h := en_lc (K := K) (G := G) (te := te) (tt := tYes) (wi := wi) (g := g) (vs := vs) (cd := fun _ => true) (f := f) hl hi fun pre x post e => by
    obtain ⟨Gt, is, h1, h2, h3⟩ := hb pre x post e
    exact ⟨Gt, is, h1, h2, eb_yes, fun _ => h3⟩
  have e : as.filter (fun _ => true) = as := List.filter_eq_self.mpr fun _ _ => rfl
  rw [e] at h
  exact h

theorem en_lcT {α β : Type} {wi : TI} {g : TG} {vs : List Nat} {as : List α} {enc : α → D} (eb : β → D) (f : α → β) (hl : as.length ≤ sizeLine) (hi : ItD K wi G (as.map enc))
    (hb : ∀ pre x post, as = pre ++ x :: post → ∃ Gt is, TgD K g (enc x) (wipeC G vs) Gt is ∧ (∀ i ∈ is, i ∈ vs) ∧ EvD K te Gt (eb (f x))) : EvN K (tLc wi g tYes te vs) G ((as.map f).map eb) := by
  rw [List.map_map]
  exact en_lcA (f := fun x => eb (f x)) hl hi hb
theorem en_lcF {α β : Type} {wi : TI} {g : TG} {vs : List Nat} {as : List α} {enc : α → D} (eb : β → D) (cd : α → Bool) (f : α → β) (hl : as.length ≤ sizeLine) (hi : ItD K wi G (as.map enc))
    (hb : ∀ pre x post, as = pre ++ x :: post → ∃ Gt is, TgD K g (enc x) (wipeC G vs) Gt is ∧ (∀ i ∈ is, i ∈ vs) ∧ EvB K tt Gt (cd x) ∧ (cd x = true → EvD K te Gt (eb (f x)))) : EvN K (tLc wi g tt te vs) G (((as.filter cd).map f).map eb) := by
  rw [List.map_map]
  exact en_lc (f := fun x => eb (f x)) hl hi hb

/-! ### defs -/
def spD (K : Fg) (P : List D → D → Prop) : Sp := fun vs H Q _ => ∃ F ds d, Same F H ∧ Reps K F ds vs ∧ P ds d ∧ ∀ v F' H', Step F H F' H' → Rep K F' d v → Q v H'
theorem spD_len {P : List D → D → Prop} {n : Nat} (h : ∀ ds d, P ds d → ds.length = n) : ∀ (vs : List V) (H : Hp) (Q : VK) (E : XK), spD K P vs H Q E → vs.length = n := fun vs H Q E ⟨F, ds, d, _, r, p, _⟩ => by rw [r.len, h ds d p]
/-- the slots at the start -/
def ctx0 (n : Nat) (ds : List D) : Ctx := ds.map Sl.val ++ List.replicate (n - ds.length) .un
theorem sok0 {F H : Hp} {N : List Str} {vs : List V} {ds : List D} (s : Same F H) (r : Reps K F ds vs) : SOk K F H F H (start N vs) (ctx0 N.length ds) where
  st := Step.refl s
  len := by simp [L2.start, ctx0, r.len]
  sl := fun i c e => by
    unfold ctx0 at e
    by_cases hi : i < ds.length
    · rw [List.getElem?_append_left (by simpa using hi), List.getElem?_map, List.getElem?_eq_getElem hi] at e
      cases e
      obtain ⟨v, hv, rv⟩ := r.get (List.getElem?_eq_getElem hi)
      have hv' : i < vs.length := by rw [r.len]; exact hi
      refine ⟨some v, ?_, v, rfl, rv⟩
      unfold L2.start
      rw [List.getElem?_append_left (by simpa using hv'), List.getElem?_map, hv]
      rfl
    · rw [List.getElem?_append_right (by simpa using hi)] at e
      have e' := List.mem_of_getElem? e
      have : c = .un := (List.mem_replicate.mp e').2
      subst this
      have hl := (List.getElem?_eq_some_iff.mp e).1
      rw [List.length_replicate, List.length_map] at hl
      refine ⟨none, ?_, trivial⟩
      unfold L2.start
      rw [List.getElem?_append_right (by simp [r.len]; omega), List.getElem?_replicate, if_pos (by simp [r.len]; exact hl)]
  ap := fun i j es fs a e1 _ _ _ => by
    unfold ctx0 at e1
    rcases List.mem_append.mp (List.mem_of_getElem? e1) with z | z
    · obtain ⟨d, _, q⟩ := List.mem_map.mp z
      cases q
    · have := (List.mem_replicate.mp z).2
      cases this
theorem run_def {P : List D → D → Prop} {N : List Str} (h : ∀ ds d, P ds d → StD K t (ctx0 N.length ds) (.rt d)) (vs : List V) (H : Hp) (Q : VK) (E : XK) (p : spD K P vs H Q E) : t { nx := fun _ H' => Q .non H', rt := Q } (start N vs) H := by
  obtain ⟨F, ds, d, sf, r, pd, q⟩ := p
  exact h ds d pd F H F H _ _ (sok0 sf r) fun v F' H' s _ rv => q v F' H' s rv
/-- a def that hands back nothing -/
theorem run_defN {P : List D → D → Prop} {N : List Str} (h : ∀ ds d, P ds d → d = .non ∧ ∃ G', StD K t (ctx0 N.length ds) (.nx G')) (vs : List V) (H : Hp) (Q : VK) (E : XK) (p : spD K P vs H Q E) : t { nx := fun _ H' => Q .non H', rt := Q } (start N vs) H := by
  obtain ⟨F, ds, d, sf, r, pd, q⟩ := p
  obtain ⟨rfl, G', st⟩ := h ds d pd
  exact st F H F H _ _ (sok0 sf r) fun σ F' H' s _ => q .non F' H' s.st rfl
theorem ev_call {P : List D → D → Prop} {E : XK} (h : EvA K tr G ds) (p : P ds d) : EvD K (tCall (spD K P) [] E tr) G d := fun F0 H0 F H σ s Q q => h F0 H0 F H σ s _ fun vs F1 H1 t1 r1 =>
  ⟨F1, ds, d, t1.fh, by rw [List.append_nil]; exact r1, p, fun v F2 H2 t2 r2 => q v F2 H2 (t1.trans t2) r2⟩
/-- a field of an object -/
def fieldD : List Str → List D → Str → Option D
  | n :: ns, d :: ds, f => if n = f then some d else fieldD ns ds f
  | _, _, _ => none
theorem field_get {F : Hp} {f : Str} : ∀ {ns : List Str} {ds : List D} {us : List V} {d : D}, us.length = ns.length → Reps K F ds us → fieldD ns ds f = some d → ∃ v, (ns.zip us).lookup f = some v ∧ Rep K F d v
  | [], _, _, _, _, _, h => by cases h
  | n :: ns, [], us, _, hl, r, h => by cases h
  | n :: ns, c :: ds, us, d, hl, r, h => by
    obtain ⟨u, us', rfl, r1, r2⟩ := r
    unfold fieldD at h
    rw [List.zip_cons_cons, List.lookup_cons]
    by_cases q : n = f
    · rw [if_pos q] at h
      cases h
      refine ⟨u, ?_, r1⟩
      rw [q, beq_self_eq_true]
    · rw [if_neg q] at h
      have : (f == n) = false := beq_eq_false_iff_ne.mpr fun z => q z.symm
      rw [this]
      exact field_get (by simpa using hl) r2 h
theorem ev_fld {f : Str} {C : Addr} {ns : List Str} (c : Cls K C) (n : NoAttr K C f) (hd : fieldD ns ds f = some d) (h : EvD K ta G (.ins C ns ds)) : EvD K (tFld K ta f) G d := fun F0 H0 F H σ s Q q => h F0 H0 F H σ s _ fun v F1 H1 t1 r1 => by
  obtain ⟨p, dx, us, rfl, h1, h2, h3⟩ := r1
  obtain ⟨w, hw, rw_⟩ := field_get h2 h3 hd
  exact ⟨p, C, dx, _, w, rfl, t1.fh _ _ h1, c, n, hw, q w F1 H1 t1 rw_⟩
theorem lookup_no {f : Str} : ∀ {ns : List Str} {us : List V}, f ∉ ns → (ns.zip us).lookup f = none
  | [], _, _ => rfl
  | n :: ns, [], _ => rfl
  | n :: ns, u :: us, h => by
    rw [List.zip_cons_cons, List.lookup_cons]
    have : (f == n) = false := beq_eq_false_iff_ne.mpr fun z => h (by rw [z]; exact List.mem_cons_self)
    rw [this]
    exact lookup_no fun z => h (List.mem_cons_of_mem _ z)
/-- o.m(..) -/
theorem ev_meth {m : Str} {C : Addr} {ns : List Str} {P : List D → D → Prop} {E : XK} (hm : m ∉ ns) (h : EvD K ta G (.ins C ns es)) (ha : EvA K tr G ds) (p : P (.ins C ns es :: ds) d) : EvD K (tMeth C m (spD K P) [] E ta tr) G d := fun F0 H0 F H σ s Q q => h F0 H0 F H σ s _ fun v F1 H1 t1 r1 => by
  obtain ⟨x, dx, us, rfl, h1, h2, h3⟩ := id r1
  refine ⟨x, dx, _, rfl, t1.fh _ _ h1, lookup_no hm, ha F0 H0 F1 H1 σ (s.step t1) _ fun vs F2 H2 t2 r2 => ?_⟩
  exact ⟨F2, _, d, t2.fh, by rw [List.append_nil]; exact Reps.cons (Rep.mono t2.ff _ _ r1) r2, p, fun w F3 H3 t3 r3 => q w F3 H3 ((t1.trans t2).trans t3) r3⟩
end
end Cw
set_option maxHeartbeats 4000000
namespace Cw
open PySem PySem.Spec PyProof.Rows L2
mutual
def py : D → PyData
  | .non => .none
  | .bl b => .bool b
  | .int i => .int i
  | .str x => .str x
  | .lst ds => .list (pys ds)
  | .tup ds => .tuple (pys ds)
  | .scr _ => .none
  | .key ns => .tuple (ns.map PyData.int)
  | .ins _ _ _ => .none
def pys : List D → List PyData
  | [] => []
  | d :: ds => py d :: pys ds
end
mutual
/-- data that == walks: no objects, no texts, at most n deep -/
def okD : Nat → D → Bool
  | _, .non => true
  | _, .bl _ => true
  | _, .int _ => true
  | _, .str _ => false
  | n, .lst ds => okDs n ds
  | n, .tup ds => okDs n ds
  | _, .scr _ => false
  | _, .key _ => true
  | _, .ins _ _ _ => false
def okDs : Nat → List D → Bool
  | 0, ds => ds.isEmpty
  | _ + 1, [] => true
  | n + 1, d :: ds => okD n d && okDs (n + 1) ds
end
theorem dpAll_ints {K : Fg} {F : Hp} : ∀ ns : List Int, DpAll K F (ns.map V.int) (ns.map PyData.int)
  | [] => .nil
  | n :: ns => .cons (.int n) (dpAll_ints ns)
theorem lay_ints : ∀ ns : List Int, PyData.canLayAll0 (ns.map PyData.int) = true ∧ PyData.depthAll (ns.map PyData.int) = 0
  | [] => ⟨rfl, rfl⟩
  | n :: ns => by
    obtain ⟨a, b⟩ := lay_ints ns
    refine ⟨by simp [PyData.canLayAll0, PyData.canLay0, a], by simp [PyData.depthAll, PyData.depth, b]⟩
mutual
theorem ok_dp {K : Fg} {F : Hp} : ∀ (n : Nat) (d : D) (v : V), okD n d = true → Rep K F d v → Dp K F v (py d)
  | _, .non, _, _, r => by cases r; exact .non
  | _, .bl b, _, _, r => by cases r; exact .bl b
  | _, .int i, _, _, r => by cases r; exact .int i
  | _, .str x, _, h, _ => by simp [okD] at h
  | n, .lst ds, _, h, r => by
    obtain ⟨a, vs, rfl, h1, h2⟩ := r
    exact .lst (.inl (.inl h1)) (ok_dps n ds vs (by simpa [okD] using h) h2)
  | n, .tup ds, _, h, r => by
    obtain ⟨a, vs, rfl, h1, h2⟩ := r
    exact .tup h1 (ok_dps n ds vs (by simpa [okD] using h) h2)
  | _, .scr _, _, h, _ => by simp [okD] at h
  | _, .key ns, _, _, r => by
    obtain ⟨a, rfl, h1⟩ := r
    exact .tup (.inl (.inl h1)) (dpAll_ints ns)
  | _, .ins _ _ _, _, h, _ => by simp [okD] at h
theorem ok_dps {K : Fg} {F : Hp} : ∀ (n : Nat) (ds : List D) (vs : List V), okDs n ds = true → Reps K F ds vs → DpAll K F vs (pys ds)
  | _, [], _, _, r => by cases r; exact .nil
  | 0, d :: ds, _, h, _ => by simp [okDs] at h
  | n + 1, d :: ds, _, h, r => by
    obtain ⟨v, vs, rfl, h1, h2⟩ := r
    have h' : okD n d = true ∧ okDs (n + 1) ds = true := by simpa [okDs] using h
    exact .cons (ok_dp n d v h'.1 h1) (ok_dps (n + 1) ds vs h'.2 h2)
end
mutual
theorem ok_sh : ∀ (n : Nat) (d : D), okD n d = true → (py d).canLay0 = true ∧ (py d).depth ≤ n + 1
  | n, .non, _ => ⟨rfl, Nat.zero_le _⟩
  | n, .bl b, _ => ⟨rfl, Nat.zero_le _⟩
  | n, .int i, _ => ⟨rfl, Nat.zero_le _⟩
  | _, .str x, h => by simp [okD] at h
  | n, .lst ds, h => by
    have := ok_shs n ds (by simpa [okD] using h)
    exact ⟨by simpa [py, PyData.canLay0] using this.1, by simpa [py, PyData.depth] using this.2⟩
  | n, .tup ds, h => by
    have := ok_shs n ds (by simpa [okD] using h)
    exact ⟨by simpa [py, PyData.canLay0] using this.1, by simpa [py, PyData.depth] using this.2⟩
  | _, .scr _, h => by simp [okD] at h
  | n, .key ns, _ => by
    obtain ⟨a, b⟩ := lay_ints ns
    refine ⟨by simp [py, PyData.canLay0, a], by simp [py, PyData.depth, b]⟩
  | _, .ins _ _ _, h => by simp [okD] at h
theorem ok_shs : ∀ (n : Nat) (ds : List D), okDs n ds = true → PyData.canLayAll0 (pys ds) = true ∧ PyData.depthAll (pys ds) + 1 ≤ n + 1
  | n, [], _ => ⟨rfl, by simp [pys, PyData.depthAll]⟩
  | 0, d :: ds, h => by simp [okDs] at h
  | n + 1, d :: ds, h => by
    have h' : okD n d = true ∧ okDs (n + 1) ds = true := by simpa [okDs] using h
    have a := ok_sh n d h'.1
    have b := ok_shs (n + 1) ds h'.2
    refine ⟨by simp [pys, PyData.canLayAll0, a.1, b.1], ?_⟩
    simp only [pys, PyData.depthAll]
    have := a.2
    have := b.2
    omega
end
theorem ok_shaped {n : Nat} {d : D} (hn : n ≤ 60) (h : okD n d = true) : SeqAt.shaped (py d) = true := by
  obtain ⟨a, b⟩ := ok_sh n d h
  unfold SeqAt.shaped
  rw [a, Bool.true_and]
  exact decide_eq_true (by omega)
section
variable {K : Fg} {G : Ctx} {ta tb : TE} {d e : D}
theorem op_eqd (hd : okD 8 d = true) (he : okD 8 e = true) : Op2 K (rEqD K) d e (.bl (PyData.eqv (py d) (py e))) := fun F H x y s hx hy Q q =>
  ⟨py d, py e, ok_dp 8 d x hd (Rep.mono s _ _ hx), ok_dp 8 e y he (Rep.mono s _ _ hy), ok_shaped (by decide) hd, ok_shaped (by decide) he, q _ F H (Step.refl s) rfl⟩
theorem op_ned (hd : okD 8 d = true) (he : okD 8 e = true) : Op2 K (rNeD K) d e (.bl (!PyData.eqv (py d) (py e))) := fun F H x y s hx hy Q q =>
  ⟨py d, py e, ok_dp 8 d x hd (Rep.mono s _ _ hx), ok_dp 8 e y he (Rep.mono s _ _ hy), ok_shaped (by decide) hd, ok_shaped (by decide) he, q _ F H (Step.refl s) rfl⟩
/-- data of one kind: == is equality -/
structure Like {α : Type} [DecidableEq α] (enc : α → D) (k : Nat) : Prop where
  ok : ∀ a, okD k (enc a) = true
  eq : ∀ a b, PyData.eqv (py (enc a)) (py (enc b)) = decide (a = b)
theorem like_int : Like D.int 0 := ⟨fun _ => rfl, fun a b => by
  simp only [py, PyData.eqv]
  exact Bool.beq_eq_decide_eq a b⟩
theorem like_bl : Like D.bl 0 := ⟨fun _ => rfl, fun a b => by
  simp only [py, PyData.eqv]
  exact Bool.beq_eq_decide_eq a b⟩
mutual
theorem okD_mono : ∀ (d : D) (n m : Nat), n ≤ m → okD n d = true → okD m d = true
  | .non, _, _, _, _ => rfl
  | .bl b, _, _, _, _ => rfl
  | .int i, _, _, _, _ => rfl
  | .str x, _, _, _, h => by simp [okD] at h
  | .lst ds, n, m, l, h => by
    have := okDs_mono ds n m l (by simpa [okD] using h)
    simpa [okD] using this
  | .tup ds, n, m, l, h => by
    have := okDs_mono ds n m l (by simpa [okD] using h)
    simpa [okD] using this
  | .scr _, _, _, _, h => by simp [okD] at h
  | .key _, _, _, _, _ => rfl
  | .ins _ _ _, _, _, _, h => by simp [okD] at h
theorem okDs_mono : ∀ (ds : List D) (n m : Nat), n ≤ m → okDs n ds = true → okDs m ds = true
  | [], 0, 0, _, _ => rfl
  | [], 0, _ + 1, _, _ => rfl
  | [], _ + 1, 0, l, _ => by omega
  | [], _ + 1, _ + 1, _, _ => rfl
  | d :: ds, 0, _, _, h => by simp [okDs] at h
  | d :: ds, n + 1, 0, l, h => by omega
  | d :: ds, n + 1, m + 1, l, h => by
    have h' : okD n d = true ∧ okDs (n + 1) ds = true := by simpa [okDs] using h
    have a := okD_mono d n m (by omega) h'.1
    have b := okDs_mono ds (n + 1) (m + 1) l h'.2
    simp [okDs, a, b]
end
theorem okDs_all {α : Type} {enc : α → D} {k : Nat} (h : ∀ a, okD k (enc a) = true) : ∀ as : List α, okDs (k + 1) (as.map enc) = true
  | [] => rfl
  | a :: as => by
    show okDs (k + 1) (enc a :: as.map enc) = true
    simp [okDs, h a, okDs_all h as]
abbrev lsD {α : Type} (enc : α → D) (as : List α) : D := .lst (as.map enc)
theorem like_lst {α : Type} [DecidableEq α] {enc : α → D} {k : Nat} (h : Like enc k) : Like (lsD enc) (k + 1) := by
  refine ⟨fun as => by simpa [okD] using okDs_all h.ok as, fun as => ?_⟩
  induction as with
  | nil =>
    intro bs
    cases bs with
    | nil => rfl
    | cons b bs => simp [lsD, py, pys, PyData.eqv, PyData.eqvAll]
  | cons a as ih =>
    intro bs
    cases bs with
    | nil => simp [lsD, py, pys, PyData.eqv, PyData.eqvAll]
    | cons b bs =>
      have i := ih bs
      simp only [lsD, py, PyData.eqv] at i
      simp only [lsD, py, pys, List.map_cons, PyData.eqv, PyData.eqvAll, h.eq a b, i]
      by_cases q : a = b <;> by_cases r : as = bs <;> simp [q, r]
def tpD {α β : Type} (ea : α → D) (eb : β → D) (p : α × β) : D := .tup [ea p.1, eb p.2]
theorem like_tp {α β : Type} [DecidableEq α] [DecidableEq β] {ea : α → D} {eb : β → D} {k : Nat} (h : Like ea k) (l : Like eb k) : Like (tpD ea eb) (k + 1) := by
  refine ⟨fun p => by simp [tpD, okD, okDs, h.ok, l.ok], fun p q => ?_⟩
  simp only [tpD, py, pys, PyData.eqv, PyData.eqvAll, h.eq, l.eq]
  obtain ⟨a, b⟩ := p
  obtain ⟨c, d⟩ := q
  by_cases q : a = c <;> by_cases r : b = d <;> simp [q, r]
/-- a == b of one kind; one may be looked at only -/
theorem ev_eqL {α : Type} [DecidableEq α] {enc : α → D} {k : Nat} {a b : α} (l : Like enc k) (hk : k ≤ 8) (ha : EvH K ta G (enc a)) (hb : EvH K tb G (enc b)) : EvD K (tOp (rEqD K) ta tb) G (.bl (decide (a = b))) := by
  have := ev_opS ha hb (op_eqd (okD_mono _ _ _ hk (l.ok a)) (okD_mono _ _ _ hk (l.ok b))) scal_bl
  rw [l.eq] at this
  exact this
theorem ev_neL {α : Type} [DecidableEq α] {enc : α → D} {k : Nat} {a b : α} (l : Like enc k) (hk : k ≤ 8) (ha : EvH K ta G (enc a)) (hb : EvH K tb G (enc b)) : EvD K (tOp (rNeD K) ta tb) G (.bl (!decide (a = b))) := by
  have := ev_opS ha hb (op_ned (okD_mono _ _ _ hk (l.ok a)) (okD_mono _ _ _ hk (l.ok b))) scal_bl
  rw [l.eq] at this
  exact this
end
end Cw
set_option maxHeartbeats 4000000
namespace Cw
open PySem PySem.Spec PyProof.Rows L2
/-! ### polynomials as lists of ints: the mirrors -/
/-- the number at a power -/
def cf (l : List Int) (i : Nat) : Int := l.getD i 0
/-- the list of n numbers -/
def mk (n : Nat) (f : Nat → Int) : List Int := (List.range n).map f
theorem mk_len {n : Nat} {f : Nat → Int} : (mk n f).length = n := by simp [mk]
theorem cf_mk {n : Nat} {f : Nat → Int} {i : Nat} : cf (mk n f) i = if i < n then f i else 0 := by
  unfold cf mk
  by_cases h : i < n
  · rw [if_pos h, List.getD_eq_getElem?_getD, List.getElem?_map, List.getElem?_range h]; rfl
  · rw [if_neg h, List.getD_eq_getElem?_getD, List.getElem?_eq_none (by simpa using h)]; rfl
theorem cf_out {l : List Int} {i : Nat} (h : l.length ≤ i) : cf l i = 0 := by
  unfold cf
  rw [List.getD_eq_getElem?_getD, List.getElem?_eq_none h]; rfl
theorem cf_get {l : List Int} {i : Nat} (h : i < l.length) : l[i]? = some (cf l i) := by
  unfold cf
  rw [List.getD_eq_getElem?_getD, List.getElem?_eq_getElem h]; rfl
theorem cf_map {l : List Int} {g : Int → Int} (h0 : g 0 = 0) {i : Nat} : cf (l.map g) i = g (cf l i) := by
  unfold cf
  rw [List.getD_eq_getElem?_getD, List.getD_eq_getElem?_getD, List.getElem?_map]
  cases l[i]? with
  | none => exact h0.symm
  | some x => rfl
theorem cf_set {l : List Int} {j : Nat} {x : Int} (hj : j < l.length) {i : Nat} : cf (l.set j x) i = if i = j then x else cf l i := by
  unfold cf
  rw [List.getD_eq_getElem?_getD, List.getD_eq_getElem?_getD]
  by_cases h : i = j
  · subst h
    rw [if_pos rfl, List.getElem?_set_self hj]; rfl
  · rw [if_neg h, List.getElem?_set_ne (Ne.symm h)]
theorem cf_cons0 {x : Int} {l : List Int} : cf (x :: l) 0 = x := rfl
theorem cf_consS {x : Int} {l : List Int} {i : Nat} : cf (x :: l) (i + 1) = cf l i := rfl
theorem cf_nil {i : Nat} : cf [] i = 0 := rfl
theorem cf_ext {l m : List Int} (hl : l.length = m.length) (h : ∀ i, cf l i = cf m i) : l = m := by
  apply List.ext_getElem? 
  intro i
  by_cases q : i < l.length
  · rw [cf_get q, cf_get (by omega), h]
  · rw [List.getElem?_eq_none (by omega), List.getElem?_eq_none (by omega)]
theorem cf_rep {n : Nat} {i : Nat} : cf (List.replicate n 0) i = 0 := by
  unfold cf
  rw [List.getD_eq_getElem?_getD, List.getElem?_replicate]
  split <;> rfl
theorem cf_app {l m : List Int} {i : Nat} : cf (l ++ m) i = if i < l.length then cf l i else cf m (i - l.length) := by
  unfold cf
  simp only [List.getD_eq_getElem?_getD]
  by_cases h : i < l.length
  · rw [if_pos h, List.getElem?_append_left h]
  · rw [if_neg h, List.getElem?_append_right (by omega)]
/-- without noughts at the end -/
def dropZ : List Int → List Int
  | [] => []
  | x :: xs => if dropZ xs = [] ∧ x = 0 then [] else x :: dropZ xs
def trim (p : Int) (ns : List Int) : List Int := dropZ (ns.map (· % p))
abbrev LM : Nat := 1000000
abbrev inD (ns : List Int) : D := lsD D.int ns
theorem like_ints : Like inD 1 := like_lst like_int
theorem dropZ_len (l : List Int) : (dropZ l).length ≤ l.length := by
  induction l with
  | nil => exact Nat.le_refl _
  | cons x xs ih =>
    unfold dropZ
    split
    · exact Nat.zero_le _
    · simpa using ih
theorem trim_len {p : Int} {l : List Int} : (trim p l).length ≤ l.length := by
  unfold trim
  exact Nat.le_trans (dropZ_len _) (by simp)
def lastI (l : List Int) : Int := l.getLastD 0
theorem atI_last1 {l : List D} {d : D} (h : l.getLast? = some d) : atI l (-1) = some d := by
  obtain ⟨l', rfl⟩ : ∃ l', l = l' ++ [d] := by
    rw [List.getLast?_eq_some_iff] at h
    exact h
  exact atI_last l' d
theorem at_last {l : List Int} (h : l ≠ []) : atI (l.map D.int) (-1) = some (.int (lastI l)) := by
  apply atI_last1
  rw [List.getLast?_map, List.getLast?_eq_some_getLast h]
  simp [lastI, List.getLastD_eq_getLast?, List.getLast?_eq_some_getLast h]
theorem at_int {l : List Int} {j : Int} (h0 : 0 ≤ j) (h : j < l.length) : atI (l.map D.int) j = some (.int (cf l j.toNat)) := by
  obtain ⟨k, rfl⟩ : ∃ k : Nat, j = k := ⟨j.toNat, by omega⟩
  apply atI_nat
  rw [List.getElem?_map, Int.toNat_natCast, cf_get (by omega)]
  rfl
theorem ixN_int {n : Nat} {j : Int} (h0 : 0 ≤ j) (h : j < n) : ixN n j = some j.toNat := by
  unfold ixN
  rw [if_pos h0, if_pos h]
theorem lastI_snoc {l : List Int} {x : Int} : lastI (l ++ [x]) = x := by simp [lastI, List.getLastD_eq_getLast?]
theorem snoc_of {l : List Int} (e : l ≠ []) : ∃ l' x, l = l' ++ [x] := ⟨l.dropLast, l.getLast e, (List.dropLast_concat_getLast e).symm⟩
theorem lastI_cf {l : List Int} (h : l ≠ []) : lastI l = cf l (l.length - 1) := by
  obtain ⟨l', x, rfl⟩ := snoc_of h
  rw [lastI_snoc, cf_app, if_neg (by simp), show (l' ++ [x]).length - 1 - l'.length = 0 by simp]; rfl
theorem dropZ_snoc (l : List Int) (x : Int) : dropZ (l ++ [x]) = if x = 0 then dropZ l else l ++ [x] := by
  induction l with
  | nil => by_cases h : x = 0 <;> simp [dropZ, h]
  | cons y ys ih =>
    show (if dropZ (ys ++ [x]) = [] ∧ y = 0 then [] else y :: dropZ (ys ++ [x])) = _
    rw [ih]
    by_cases h : x = 0
    · simp only [h, if_true]; rfl
    · simp [h]
theorem drop_loop (n : Nat) : ∀ l : List Int, l.length ≤ n → whileN (fun l : List Int => !decide (l = []) && decide (lastI l = 0)) List.dropLast n l = dropZ l := by
  induction n with
  | zero =>
    intro l h
    have : l = [] := List.length_eq_zero_iff.mp (by omega)
    subst this
    rfl
  | succ n ih =>
    intro l h
    show (if _ then _ else _) = _
    by_cases e : l = []
    · subst e; simp [dropZ]
    · obtain ⟨l', x, rfl⟩ := snoc_of e
      have e2 : lastI (l' ++ [x]) = x := lastI_snoc
      simp only [dropZ_snoc, e2]
      by_cases hx : x = 0
      · simp only [hx]
        simp
        exact ih l' (by simpa using h)
      · simp [hx]
/-! normal lists -/
def Nrm (p : Int) (l : List Int) : Prop := (∀ x ∈ l, 0 ≤ x ∧ x < p) ∧ (l ≠ [] → lastI l ≠ 0)
theorem nrm_nil {p : Int} : Nrm p [] := ⟨fun _ h => (List.not_mem_nil h).elim, fun h => absurd rfl h⟩
theorem dropZ_mem {l : List Int} {x : Int} (h : x ∈ dropZ l) : x ∈ l := by
  induction l with
  | nil => exact h
  | cons y ys ih =>
    unfold dropZ at h
    split at h
    · cases h
    · rcases List.mem_cons.mp h with rfl | h
      · exact List.mem_cons_self
      · exact List.mem_cons_of_mem _ (ih h)
theorem dropZ_last (l : List Int) : dropZ l ≠ [] → lastI (dropZ l) ≠ 0 := by
  induction l with
  | nil => intro h; exact absurd rfl h
  | cons y ys ih =>
    intro h
    unfold dropZ at h ⊢
    split at h
    · exact absurd rfl h
    · rename_i q
      rw [if_neg q]
      cases e : dropZ ys with
      | nil =>
        rw [e] at q
        intro z
        exact q ⟨rfl, z⟩
      | cons a as =>
        rw [e] at ih
        exact ih (by simp)
theorem trim_nrm {p : Int} (hp : 0 < p) (l : List Int) : Nrm p (trim p l) := by
  refine ⟨fun x hx => ?_, dropZ_last _⟩
  obtain ⟨y, _, rfl⟩ := List.mem_map.mp (dropZ_mem hx)
  exact ⟨Int.emod_nonneg _ (by omega), Int.emod_lt_of_pos _ hp⟩
theorem cf_dropZ (l : List Int) : ∀ i, cf (dropZ l) i = cf l i := by
  induction l with
  | nil => intro i; rfl
  | cons y ys ih =>
    intro i
    unfold dropZ
    split
    · rename_i q
      cases i with
      | zero => rw [cf_cons0, q.2]; rfl
      | succ i => rw [cf_consS, ← ih i, q.1]; rfl
    · cases i with
      | zero => rfl
      | succ i => exact ih i
theorem cf_trim {p : Int} {l : List Int} {i : Nat} : cf (trim p l) i = cf l i % p := by
  unfold trim
  rw [cf_dropZ, cf_map (by simp)]
theorem Nrm.bd {p : Int} {l : List Int} (hp : 0 < p) (h : Nrm p l) (i : Nat) : 0 ≤ cf l i ∧ cf l i < p := by
  by_cases q : i < l.length
  · exact h.1 _ (List.mem_of_getElem? (cf_get q))
  · rw [cf_out (by omega)]; omega
theorem Nrm.len_le {p : Int} {l m : List Int} (h : Nrm p l) (e : ∀ i, cf l i = cf m i) : l.length ≤ m.length := by
  by_cases q : l = []
  · subst q; exact Nat.zero_le _
  · have := h.2 q
    rw [lastI_cf q, e] at this
    apply Decidable.byContradiction
    intro z
    have hl : 0 < l.length := List.length_pos_iff.mpr q
    exact this (cf_out (by omega))
theorem Nrm.ext {p : Int} {l m : List Int} (h : Nrm p l) (k : Nrm p m) (e : ∀ i, Cw.cf l i = Cw.cf m i) : l = m :=
  cf_ext (Nat.le_antisymm (h.len_le e) (k.len_le fun i => (e i).symm)) e
theorem trim_id {p : Int} (hp : 0 < p) {l : List Int} (h : Nrm p l) : trim p l = l := (trim_nrm hp l).ext h fun i => by
  rw [cf_trim]
  exact Int.emod_eq_of_lt (h.bd hp i).1 (h.bd hp i).2
theorem trim_ext {p : Int} (hp : 0 < p) {l m : List Int} (e : ∀ i, Cw.cf l i % p = Cw.cf m i % p) : trim p l = trim p m := (trim_nrm hp l).ext (trim_nrm hp m) fun i => by
  rw [cf_trim, cf_trim, e]
def Sm (ns : List Int) : Prop := ∀ x ∈ ns, -(2 ^ 64) < x ∧ x < 2 ^ 64
theorem Nrm.sm {p : Int} {l : List Int} (h : Nrm p l) (hp : p ≤ 13) : Sm l := fun x hx => by
  have := h.1 x hx
  omega
/-! ### the mirrors -/
def padd (p : Int) (a b : List Int) : List Int := trim p (mk (max a.length b.length) fun i => cf a i + cf b i)
def pneg (p : Int) (a : List Int) : List Int := trim p (a.map fun x => 0 - x)
def psub (p : Int) (a b : List Int) : List Int := padd p a (pneg p b)
def pscl (p : Int) (a : List Int) (n : Int) : List Int := trim p (a.map fun x => x * n)
/-- x * b added from the place i on -/
def addAt (i x : Int) (b : List Int) (l : List Int) : List Int := (enumI b).foldl (fun l q => l.set (i + q.1).toNat (cf l (i + q.1).toNat + x * q.2)) l
def mulF (a b : List Int) : List Int := (enumI a).foldl (fun l q => addAt q.1 q.2 b l) (List.replicate (a.length + b.length) 0)
def pmul (p : Int) (a b : List Int) : List Int := trim p (mulF a b)
def ppow (p : Int) (a : List Int) : Nat → List Int
  | 0 => [1]
  | n + 1 => pmul p (ppow p a n) a
def pinv (p n : Int) : Int := ((rangeI 1 (p - 1).toNat).filter fun low => decide (low * n % p = 1)).headD 0
def pder (p : Int) (a : List Int) : List Int := trim p ((enumI a).map fun q => q.1 * q.2).tail
theorem padd_len {p : Int} {a b : List Int} : (padd p a b).length ≤ max a.length b.length := Nat.le_trans trim_len (by rw [mk_len]; exact Nat.le_refl _)
theorem pneg_len {p : Int} {a : List Int} : (pneg p a).length ≤ a.length := Nat.le_trans trim_len (by simp)
theorem psub_len {p : Int} {a b : List Int} : (psub p a b).length ≤ max a.length b.length := by
  have h1 := padd_len (p := p) (a := a) (b := pneg p b)
  have h2 := pneg_len (p := p) (a := b)
  unfold psub
  omega
theorem pscl_len {p : Int} {a : List Int} {n : Int} : (pscl p a n).length ≤ a.length := Nat.le_trans trim_len (by simp)
theorem foldl_len {α : Type} (g : List Int → α → List Int) (h : ∀ l x, (g l x).length = l.length) : ∀ (xs : List α) (l : List Int), (xs.foldl g l).length = l.length
  | [], l => rfl
  | x :: xs, l => by rw [List.foldl_cons, foldl_len g h xs, h]
theorem addAt_len {i x : Int} {b l : List Int} : (addAt i x b l).length = l.length := foldl_len _ (fun _ _ => by simp) _ _
theorem mulF_len {a b : List Int} : (mulF a b).length = a.length + b.length := by
  unfold mulF
  rw [foldl_len _ (fun _ _ => addAt_len)]; simp
theorem pmul_len {p : Int} {a b : List Int} : (pmul p a b).length ≤ a.length + b.length := Nat.le_trans trim_len (by rw [mulF_len]; exact Nat.le_refl _)
theorem enumI_len {α : Type} {l : List α} : (enumI l).length = l.length := by simp [enumI]
theorem pder_len {p : Int} {a : List Int} : (pder p a).length ≤ a.length := Nat.le_trans trim_len (by simp [enumI_len])
end Cw
set_option maxHeartbeats 4000000
namespace Cw
open PySem PySem.Spec PyProof.Rows L2
section
variable {K : Fg} {G : Ctx} {te ta tb tc : TE} {tt tu : TT} {tr : TA} {t u r : TS} {d e : D}
theorem LMs {n : Nat} (h : n ≤ 10 * LM) : n ≤ sizeLine := Nat.le_trans h (by decide)
theorem mem_mid {α : Type} {as pre post : List α} {x : α} (e : as = pre ++ x :: post) : x ∈ as := by rw [e]; simp
abbrev rLenB (K : Fg) : List V → Hp → VK → Prop := fun xs H Q => ∃ p ys, xs = [V.ref p] ∧ (SqL K H p ys ∨ SqT K H p ys) ∧ Q (.int ys.length) H
theorem ev_lenL {α : Type} {enc : α → D} {as : List α} (h : EvH K ta G (lsD enc as)) : EvD K (tCB (fun xs H Q => ∃ p ys, xs = [V.ref p] ∧ (SqL K H p ys ∨ SqT K H p ys) ∧ Q (.int ys.length) H) (tCons ta tNil)) G (.int as.length) := by
  have := ev_len h
  rw [List.length_map] at this
  exact this
theorem en_catT {α : Type} {enc : α → D} {as bs : List α} (hl : as.length + bs.length ≤ 10 * LM) (ha : EvD K ta G (lsD enc as)) (hb : EvD K tb G (lsD enc bs)) : EvN K (tOp rCat ta tb) G ((as ++ bs).map enc) := by
  rw [List.map_append]
  exact en_cat (by rw [List.length_map, List.length_map]; exact LMs hl) ha hb
theorem en_repT {α : Type} {enc : α → D} {x : α} {n : Int} (hn : n ≤ 10 * LM ∧ -(2 ^ 63) ≤ n) (ha : EvD K ta G (lsD enc [x])) (hb : EvD K tb G (.int n)) : EvN K (tOp rRep ta tb) G ((List.replicate n.toNat x).map enc) := by
  rw [List.map_replicate]
  refine en_rep1 ⟨?_, hn.2⟩ ha hb
  have : (10 * LM : Int) ≤ (sizeLine : Int) := by decide
  omega
theorem ev_max {i j : Int} (ha : EvD K ta G (.int i)) (hb : EvD K tb G (.int j)) : EvD K (tCB (fun xs H Q => ∃ i j, xs = [V.int i, V.int j] ∧ Q (.int (if j > i then j else i)) H) (tCons ta (tCons tb tNil))) G (.int (max i j)) := ev_cb (ea_cons ha (ea_cons hb ea_nil)) oa_max
theorem ev_min {i j : Int} (ha : EvD K ta G (.int i)) (hb : EvD K tb G (.int j)) : EvD K (tCB (fun xs H Q => ∃ i j, xs = [V.int i, V.int j] ∧ Q (.int (if j < i then j else i)) H) (tCons ta (tCons tb tNil))) G (.int (min i j)) := ev_cb (ea_cons ha (ea_cons hb ea_nil)) oa_min
theorem ev_intc {i : Int} (ha : EvD K ta G (.int i)) : EvD K (tCB (fun xs H Q => (∃ i, xs = [V.int i] ∧ Q (.int i) H) ∨ ∃ k, xs = [V.bl k] ∧ Q (.int (if k then 1 else 0)) H) (tCons ta tNil)) G (.int i) := ev_cb (ea_cons ha ea_nil) oa_int
theorem ev_ixI {l : List Int} {j : Int} (h0 : 0 ≤ j) (h : j < l.length) (ha : EvD K ta G (inD l)) (hb : EvD K tb G (.int j)) : EvD K (tOp (rIxL K) ta tb) G (.int (cf l j.toNat)) := ev_ixL (at_int h0 h) ha hb
theorem ev_ixIO {l : List Int} {i : Nat} {j : Int} (hi : G[i]? = some (.own (l.map D.int))) (h0 : 0 ≤ j) (h : j < l.length) (hb : EvD K tb G (.int j)) : EvD K (tOp (rIxL K) (tVar i) tb) G (.int (cf l j.toNat)) := ev_ixO hi (at_int h0 h) hb
theorem ev_ixN {l : List Int} (h : l ≠ []) (ha : EvD K ta G (inD l)) (hb : EvD K tb G (.int (-1))) : EvD K (tOp (rIxL K) ta tb) G (.int (lastI l)) := ev_ixL (at_last h) ha hb
theorem ev_m1 : EvD K (tUn (rU fun i => V.int (-i)) (tC (V.int 1))) G (.int (-1)) := ev_neg ev_int
/-- an item of a tuple of two, of three .. -/
theorem ev_tix {xs : List D} {j : Nat} (h : xs[j]? = some d) (ha : EvD K ta G (.tup xs)) : EvD K (tOp (rIxT K) ta (tC (V.int (j : Int)))) G d := ev_ixT (atI_nat h) ha ev_int
theorem ev_tix0 {a : D} {xs : List D} (ha : EvD K ta G (.tup (a :: xs))) : EvD K (tOp (rIxT K) ta (tC (V.int 0))) G a := ev_tix (j := 0) rfl ha
theorem ev_tix1 {a b : D} {xs : List D} (ha : EvD K ta G (.tup (a :: b :: xs))) : EvD K (tOp (rIxT K) ta (tC (V.int 1))) G b := ev_tix (j := 1) rfl ha
theorem ev_tix2 {a b c : D} {xs : List D} (ha : EvD K ta G (.tup (a :: b :: c :: xs))) : EvD K (tOp (rIxT K) ta (tC (V.int 2))) G c := ev_tix (j := 2) rfl ha
theorem rangeI_map {β : Type} {n : Nat} {f : Int → β} : (rangeI 0 n).map f = (List.range n).map fun (k : Nat) => f (k : Int) := by
  unfold rangeI
  rw [List.map_map]
  apply List.map_congr_left
  intro k _
  show f (0 + (k : Int)) = _
  rw [Int.zero_add]
theorem ea1 (h : EvD K te G d) : EvA K (tCons te tNil) G [d] := ea_cons h ea_nil
theorem ea2 {a b : D} (h : EvD K ta G a) (k : EvD K tb G b) : EvA K (tCons ta (tCons tb tNil)) G [a, b] := ea_cons h (ea1 k)
theorem ea3 {a b c : D} (h : EvD K ta G a) (k : EvD K tb G b) (l : EvD K tc G c) : EvA K (tCons ta (tCons tb (tCons tc tNil))) G [a, b, c] := ea_cons h (ea2 k l)
theorem ea4 {a b c : D} (h : EvD K ta G a) (k : EvD K tb G b) (l : EvD K tc G c) (m : EvD K te G d) : EvA K (tCons ta (tCons tb (tCons tc (tCons te tNil)))) G [a, b, c, d] := ea_cons h (ea3 k l m)
theorem en_lst0 : EvN K (tLst tNil) G [] := en_lst ea_nil (by decide)
theorem en_lst1 (h : EvD K te G d) : EvN K (tLst (tCons te tNil)) G [d] := en_lst (ea1 h) (by show 1 ≤ sizeLine; decide)
/-- x != [], x == [] of lists of ints, looked at -/
theorem ev_ne0 {l : List Int} (h : EvH K ta G (inD l)) : EvD K (tOp (rNeD K) ta (tLst tNil)) G (.bl (!decide (l = []))) := ev_neL (b := []) like_ints (by decide) h (eh_pub en_lst0)
theorem ev_eq0 {l : List Int} (h : EvH K ta G (inD l)) : EvD K (tOp (rEqD K) ta (tLst tNil)) G (.bl (decide (l = []))) := ev_eqL (b := []) like_ints (by decide) h (eh_pub en_lst0)
theorem ev_eqI1 {l : List Int} {x : Int} (h : EvH K ta G (inD l)) : EvD K (tOp (rEqD K) ta (tLst (tCons (tC (.int x)) tNil))) G (.bl (decide (l = [x]))) := ev_eqL (b := [x]) like_ints (by decide) h (eh_pub (en_lst1 ev_int))
theorem st_popI {i : Nat} {l : List Int} (hi : G[i]? = some (.own (l.map D.int))) (hl : l ≠ []) : StD K (tDrop (tBM0 K "list" rPop (tVar i))) G (.nx (G.set i (.own (l.dropLast.map D.int)))) := by
  rw [List.map_dropLast]
  exact st_pop hi (by simpa using hl)
theorem st_setL {i : Nat} {l : List Int} {j x : Int} {tj : TE} (hi : G[i]? = some (.own (l.map D.int))) (h0 : 0 ≤ j) (hl : j < l.length) (h : EvD K te G (.int x)) (hj : EvD K tj G (.int j)) : StD K (tAsg te (gSub (tVar i) tj rSetL)) G (.nx (G.set i (.own ((l.set j.toNat x).map D.int)))) := by
  rw [List.map_set]
  exact st_setI hi (ixN_int h0 (by rw [List.length_map]; exact hl)) h hj
theorem st_appT {α : Type} {enc : α → D} {i : Nat} {l : List α} {x : α} (hi : G[i]? = some (.own (l.map enc))) (hl : l.length ≤ LM) (h : EvD K te G (enc x)) : StD K (tDrop (tBM K "list" rAppend (tVar i) (tCons te tNil))) G (.nx (G.set i (.own ((l ++ [x]).map enc)))) := by
  rw [List.map_append]
  exact st_app hi (by rw [List.length_map]; exact Nat.lt_of_le_of_lt hl (by decide)) h
end
/-! ### the primes -/
def Pm (p : Int) : Prop := p = 3 ∨ p = 5 ∨ p = 7 ∨ p = 11 ∨ p = 13
theorem Pm.pos {p : Int} (h : Pm p) : 0 < p := by rcases h with rfl | rfl | rfl | rfl | rfl <;> decide
theorem Pm.le {p : Int} (h : Pm p) : p ≤ 13 := by rcases h with rfl | rfl | rfl | rfl | rfl <;> decide
theorem Pm.ge {p : Int} (h : Pm p) : 3 ≤ p := by rcases h with rfl | rfl | rfl | rfl | rfl <;> decide
/-! ### what the defs do -/
def p_trimmed (ds : List D) (d : D) : Prop := ∃ p ns, ds = [.int p, inD ns] ∧ 0 < p ∧ ns.length ≤ 2 * LM ∧ d = inD (trim p ns)
def p_negated (ds : List D) (d : D) : Prop := ∃ p a, ds = [.int p, inD a] ∧ 0 < p ∧ a.length ≤ LM ∧ d = inD (pneg p a)
def p_added (ds : List D) (d : D) : Prop := ∃ p a b, ds = [.int p, inD a, inD b] ∧ 0 < p ∧ a.length ≤ LM ∧ b.length ≤ LM ∧ d = inD (padd p a b)
def p_lessened (ds : List D) (d : D) : Prop := ∃ p a b, ds = [.int p, inD a, inD b] ∧ 0 < p ∧ a.length ≤ LM ∧ b.length ≤ LM ∧ d = inD (psub p a b)
def p_scaled (ds : List D) (d : D) : Prop := ∃ p a n, ds = [.int p, inD a, .int n] ∧ 0 < p ∧ a.length ≤ LM ∧ (-(2 ^ 64) < n ∧ n < 2 ^ 64) ∧ d = inD (pscl p a n)
def p_multiplied (ds : List D) (d : D) : Prop := ∃ p a b, ds = [.int p, inD a, inD b] ∧ 0 < p ∧ a.length ≤ LM ∧ b.length ≤ LM ∧ Sm a ∧ d = inD (pmul p a b)
def p_power_of (ds : List D) (d : D) : Prop := ∃ p a n, ds = [.int p, inD a, .int n] ∧ 0 < p ∧ p ≤ 13 ∧ 0 ≤ n ∧ n ≤ 1000 ∧ n.toNat * a.length ≤ 500000 ∧ a.length ≤ 500000 ∧ d = inD (ppow p a n.toNat)
def p_inverse (ds : List D) (d : D) : Prop := ∃ p n, ds = [.int p, .int n] ∧ Pm p ∧ n % p ≠ 0 ∧ (-(2 ^ 64) < n ∧ n < 2 ^ 64) ∧ d = .int (pinv p n)
def p_slope_of (ds : List D) (d : D) : Prop := ∃ p a, ds = [.int p, inD a] ∧ 0 < p ∧ a.length ≤ LM ∧ d = inD (pder p a)
end Cw
namespace Cw
open PySem PySem.Spec PyProof.Rows L2
theorem enumI_mem {α : Type} {l : List α} {i : Int} {x : α} (h : (i, x) ∈ enumI l) : 0 ≤ i ∧ i < l.length ∧ x ∈ l := by
  unfold enumI at h
  obtain ⟨k, hk⟩ := List.getElem?_of_mem h
  rw [List.getElem?_mapIdx] at hk
  cases e : l[k]? with
  | none => rw [e] at hk; cases hk
  | some y =>
    rw [e] at hk
    have hk' : ((k : Int), y) = (i, x) := Option.some.inj hk
    cases hk'
    have := (List.getElem?_eq_some_iff.mp e).1
    exact ⟨by omega, by omega, List.mem_of_getElem? e⟩
theorem foldl_count {α : Type} : ∀ (l : List α) (n : Nat), l.foldl (fun (k : Nat) (_ : α) => k + 1) n = n + l.length
  | [], n => rfl
  | a :: l, n => by rw [List.foldl_cons, foldl_count l, List.length_cons]; omega
theorem ppow_len {p : Int} {a : List Int} {n : Nat} : (ppow p a n).length ≤ n * a.length + 1 := by
  induction n with
  | zero => simp [ppow]
  | succ n ih =>
    have := pmul_len (p := p) (a := ppow p a n) (b := a)
    unfold ppow
    rw [Nat.succ_mul]
    omega
theorem Sm.of {l : List Int} (h : ∀ x ∈ l, 0 ≤ x ∧ x ≤ 13) : Sm l := fun x hx => by
  have := h x hx
  omega
theorem ppow_sm {p : Int} {a : List Int} {n : Nat} (hp : 0 < p) (hp2 : p ≤ 13) : Sm (ppow p a n) := by
  cases n with
  | zero => exact Sm.of fun x hx => by simp [ppow] at hx; omega
  | succ n => exact (trim_nrm hp _).sm hp2
theorem inv_ne {p n : Int} (hp : Pm p) (hn : n % p ≠ 0) : ((rangeI 1 (p - 1).toNat).filter fun low => decide (low * n % p = 1)) ≠ [] := by
  have key : ∀ r : Int, 0 ≤ r → r < p → r ≠ 0 → ∃ low ∈ rangeI 1 (p - 1).toNat, low * r % p = 1 := by
    intro r h0 h1 h2
    have h3 : r = 1 ∨ r = 2 ∨ r = 3 ∨ r = 4 ∨ r = 5 ∨ r = 6 ∨ r = 7 ∨ r = 8 ∨ r = 9 ∨ r = 10 ∨ r = 11 ∨ r = 12 := by
      have := hp.le
      omega
    rcases hp with rfl | rfl | rfl | rfl | rfl <;> rcases h3 with rfl | rfl | rfl | rfl | rfl | rfl | rfl | rfl | rfl | rfl | rfl | rfl <;> first
      | omega
      | decide
  obtain ⟨low, hm, hl⟩ := key (n % p) (Int.emod_nonneg _ (by have := hp.pos; omega)) (Int.emod_lt_of_pos _ hp.pos) hn
  intro z
  have : low ∈ (rangeI 1 (p - 1).toNat).filter fun low => decide (low * n % p = 1) := by
    rw [List.mem_filter]
    refine ⟨hm, decide_eq_true ?_⟩
    rw [Int.mul_emod, Int.emod_emod_of_dvd _ (Int.dvd_refl p), ← Int.mul_emod] at hl
    first
      | exact hl
      | (rw [← hl, Int.mul_emod, Int.mul_emod low (n % p), Int.emod_emod_of_dvd _ (Int.dvd_refl p)])
  rw [z] at this
  cases this
theorem cut_tail (l : List Int) : cutD (l.map D.int) (some 1) none = (l.tail).map D.int := by
  unfold cutD
  rw [show HT.sIx (l.map D.int).length 0 (some 1) = min 1 (l.map D.int).length from HT.sIx_nat _ 0 1, HT.sIx_none]
  cases l with
  | nil => rfl
  | cons x r =>
    rw [show min 1 (List.map D.int (x :: r)).length = 1 by simp]
    show (List.take ((x :: r).map D.int |>.length).pred _) = _
    simp
    exact List.take_of_length_le (by simp)
end Cw
set_option maxHeartbeats 4000000
namespace Cw
open PySem PySem.Spec PyProof.Rows L2
theorem snoc_ind {α : Type} {P : List α → Prop} (h0 : P []) (hs : ∀ l x, P l → P (l ++ [x])) : ∀ l, P l := fun l => by
  have key : ∀ (n : Nat) (l : List α), l.length = n → P l := by
    intro n
    induction n with
    | zero => intro l h; rw [List.length_eq_zero_iff.mp h]; exact h0
    | succ n ih =>
      intro l h
      have hne : l ≠ [] := by intro z; rw [z] at h; cases h
      rw [← List.dropLast_concat_getLast hne]
      exact hs _ _ (ih _ (by rw [List.length_dropLast]; omega))
  exact key _ l rfl
theorem enumI_snoc {α : Type} (l : List α) (x : α) : enumI (l ++ [x]) = enumI l ++ [((l.length : Int), x)] := by
  unfold enumI
  rw [List.mapIdx_append]
  simp
theorem cf_snoc {l : List Int} {x : Int} {i : Nat} : cf (l ++ [x]) i = if i = l.length then x else cf l i := by
  rw [cf_app]
  by_cases h : i < l.length
  · rw [if_pos h, if_neg (by omega)]
  · rw [if_neg h]
    by_cases h2 : i = l.length
    · rw [if_pos h2, h2, Nat.sub_self]; rfl
    · rw [if_neg h2, cf_out (show l.length ≤ i by omega), cf_out (by simp; omega)]
/-! ### the product -/
theorem cf_addAt {i : Nat} {x : Int} : ∀ (b l : List Int), i + b.length ≤ l.length → ∀ k, cf (addAt i x b l) k = cf l k + if i ≤ k then x * cf b (k - i) else 0 := by
  intro b
  induction b using snoc_ind with
  | h0 =>
    intro l _ k
    show cf l k = _
    rw [cf_nil]
    split <;> omega
  | hs b y ih =>
    intro l hl k
    rw [List.length_append, List.length_singleton] at hl
    have e : addAt i x (b ++ [y]) l = (addAt i x b l).set (i + b.length) (cf (addAt i x b l) (i + b.length) + x * y) := by
      unfold addAt
      rw [enumI_snoc, List.foldl_append]
      simp only [List.foldl_cons, List.foldl_nil]
      rw [show ((i : Int) + (b.length : Int)).toNat = i + b.length by omega]
    rw [e, cf_set (by rw [addAt_len]; omega), ih l (by omega), ih l (by omega)]
    by_cases hk : k = i + b.length
    · subst hk
      rw [if_pos rfl, if_pos (by omega), if_pos (by omega), show i + b.length - i = b.length by omega, cf_snoc, if_pos rfl, cf_out (Nat.le_refl _)]
      omega
    · rw [if_neg hk]
      by_cases h : i ≤ k
      · rw [if_pos h, if_pos h, cf_snoc, if_neg (by omega)]
      · rw [if_neg h, if_neg h]
/-- sums -/
def sm (n : Nat) (f : Nat → Int) : Int := ((List.range n).map f).sum
theorem sm_zero {f : Nat → Int} : sm 0 f = 0 := rfl
theorem sm_succ {n : Nat} {f : Nat → Int} : sm (n + 1) f = sm n f + f n := by
  unfold sm
  rw [List.range_succ, List.map_append, List.sum_append]
  simp
theorem sm_congr {n : Nat} {f g : Nat → Int} (h : ∀ i, i < n → f i = g i) : sm n f = sm n g := by
  induction n with
  | zero => rfl
  | succ n ih => rw [sm_succ, sm_succ, ih (fun i hi => h i (by omega)), h n (by omega)]
theorem sm_zeros {n : Nat} {f : Nat → Int} (h : ∀ i, i < n → f i = 0) : sm n f = 0 := by
  induction n with
  | zero => rfl
  | succ n ih => rw [sm_succ, ih (fun i hi => h i (by omega)), h n (by omega)]; rfl
theorem sm_ext {n m : Nat} {f : Nat → Int} (h : ∀ i, n ≤ i → f i = 0) (hm : n ≤ m) : sm m f = sm n f := by
  induction m with
  | zero => rw [show n = 0 by omega]
  | succ m ih =>
    by_cases q : n = m + 1
    · rw [q]
    · rw [sm_succ, h m (by omega), ih (by omega)]; omega
def conv (a b : List Int) (k : Nat) : Int := sm (k + 1) fun i => cf a i * cf b (k - i)
theorem cf_mulG (b : List Int) (n : Nat) : ∀ a : List Int, a.length + b.length ≤ n → ∀ k, cf ((enumI a).foldl (fun l q => addAt q.1 q.2 b l) (List.replicate n 0)) k = sm a.length fun i => if i ≤ k then cf a i * cf b (k - i) else 0 := by
  intro a
  induction a using snoc_ind with
  | h0 => intro _ k; exact cf_rep
  | hs a x ih =>
    intro hn k
    rw [List.length_append, List.length_singleton] at hn
    rw [enumI_snoc, List.foldl_append]
    simp only [List.foldl_cons, List.foldl_nil]
    have hl : ((enumI a).foldl (fun l q => addAt q.1 q.2 b l) (List.replicate n 0)).length = n := by
      rw [foldl_len _ (fun _ _ => addAt_len)]; simp
    rw [cf_addAt _ _ (by rw [hl]; omega), ih (by omega), List.length_append, List.length_singleton, sm_succ]
    congr 1
    · apply sm_congr
      intro i hi
      simp only [cf_snoc, if_neg (show ¬ i = a.length by omega)]
    · rw [cf_snoc, if_pos rfl]
theorem cf_mulF {a b : List Int} {k : Nat} : cf (mulF a b) k = conv a b k := by
  unfold mulF conv
  rw [cf_mulG b _ a (Nat.le_refl _)]
  by_cases h : a.length ≤ k + 1
  · rw [sm_ext (n := a.length) (m := k + 1) (f := fun i => cf a i * cf b (k - i)) (fun i hi => by rw [cf_out hi, Int.zero_mul]) h]
    apply sm_congr
    intro i hi
    rw [if_pos (by omega)]
  · rw [sm_ext (n := k + 1) (m := a.length) (f := fun i => if i ≤ k then cf a i * cf b (k - i) else 0) (fun i hi => if_neg (by omega)) (by omega)]
    apply sm_congr
    intro i hi
    rw [if_pos (by omega)]
theorem cf_pmul {p : Int} {a b : List Int} {k : Nat} : cf (pmul p a b) k = conv a b k % p := by
  unfold pmul
  rw [cf_trim, cf_mulF]
theorem conv_out {a b : List Int} {k : Nat} (h : a.length + b.length ≤ k + 1) : conv a b k = 0 := by
  apply sm_zeros
  intro i hi
  by_cases q : a.length ≤ i
  · rw [cf_out q, Int.zero_mul]
  · rw [cf_out (show b.length ≤ k - i by omega), Int.mul_zero]
theorem len_of_cf {l : List Int} {p : Int} {n : Nat} (h : Nrm p l) (z : ∀ k, n ≤ k → cf l k = 0) : l.length ≤ n := by
  by_cases q : l = []
  · subst q; exact Nat.zero_le _
  · have := h.2 q
    rw [lastI_cf q] at this
    apply Decidable.byContradiction
    intro w
    exact this (z _ (by omega))
theorem pmul_len2 {p : Int} (hp : 0 < p) {a b : List Int} : (pmul p a b).length ≤ a.length + b.length - 1 := len_of_cf (trim_nrm hp _) fun k hk => by
  rw [cf_pmul, conv_out (by omega)]; simp
theorem pmul_nil {p : Int} {b : List Int} : pmul p [] b = [] := by
  unfold pmul trim
  have : ∀ k, cf (mulF [] b) k = 0 := fun k => by rw [cf_mulF]; exact sm_zeros fun i _ => by rw [cf_nil, Int.zero_mul]
  have h : ∀ l : List Int, (∀ k, cf l k = 0) → dropZ (l.map (· % p)) = [] := by
    intro l
    induction l with
    | nil => intro _; rfl
    | cons x xs ih =>
      intro h
      show (if _ then _ else _) = _
      have h0 : x = 0 := h 0
      rw [if_pos ⟨ih fun k => h (k + 1), by rw [h0]; simp⟩]
  exact h _ this
/-! ### division -/
def subAt (p at_ number : Int) (b l : List Int) : List Int := (enumI b).foldl (fun l q => l.set (at_ + q.1).toNat ((cf l (at_ + q.1).toNat - number * q.2) % p)) l
def divStep (p back : Int) (b : List Int) (s : List Int × List Int) (at_ : Int) : List Int × List Int :=
  (subAt p at_ (cf s.1 (at_ + b.length - 1).toNat * back % p) b s.1, s.2.set at_.toNat (cf s.1 (at_ + b.length - 1).toNat * back % p))
def divF (p : Int) (a b : List Int) : List Int × List Int :=
  (rangeC ((a.length : Int) - b.length) (-1) ((a.length : Int) - b.length - (-1)).toNat).foldl (divStep p (pinv p (lastI b)) b) (a, List.replicate (max ((a.length : Int) - b.length + 1) 0).toNat 0)
def pquo (p : Int) (a b : List Int) : List Int := trim p (divF p a b).2
def prem (p : Int) (a b : List Int) : List Int := trim p (divF p a b).1
theorem subAt_len {p i n : Int} {b l : List Int} : (subAt p i n b l).length = l.length := foldl_len _ (fun _ _ => by simp) _ _
theorem divG_len {p back : Int} {b : List Int} : ∀ (xs : List Int) (s : List Int × List Int), (xs.foldl (divStep p back b) s).1.length = s.1.length ∧ (xs.foldl (divStep p back b) s).2.length = s.2.length
  | [], s => ⟨rfl, rfl⟩
  | x :: xs, s => by
    rw [List.foldl_cons]
    obtain ⟨h1, h2⟩ := divG_len xs (divStep p back b s x)
    rw [h1, h2]
    exact ⟨subAt_len, by simp [divStep]⟩
theorem pquo_len {p : Int} {a b : List Int} : (pquo p a b).length ≤ a.length + 1 - b.length := Nat.le_trans trim_len (by
  unfold divF
  rw [(divG_len _ _).2, List.length_replicate]
  omega)
theorem prem_len {p : Int} {a b : List Int} : (prem p a b).length ≤ a.length := Nat.le_trans trim_len (by
  unfold divF
  rw [(divG_len _ _).1]
  exact Nat.le_refl _)
def p_parted (ds : List D) (d : D) : Prop := ∃ p a b, ds = [.int p, inD a, inD b] ∧ Pm p ∧ a.length ≤ LM ∧ b.length ≤ LM ∧ b ≠ [] ∧ Nrm p b ∧ d = .tup [inD (pquo p a b), inD (prem p a b)]
def p_whole_part (ds : List D) (d : D) : Prop := ∃ p a b, ds = [.int p, inD a, inD b] ∧ Pm p ∧ a.length ≤ LM ∧ b.length ≤ LM ∧ b ≠ [] ∧ Nrm p b ∧ d = inD (pquo p a b)
def p_rest_of (ds : List D) (d : D) : Prop := ∃ p a b, ds = [.int p, inD a, inD b] ∧ Pm p ∧ a.length ≤ LM ∧ b.length ≤ LM ∧ b ≠ [] ∧ Nrm p b ∧ d = inD (prem p a b)
theorem lastI_mem {l : List Int} (h : l ≠ []) : lastI l ∈ l := by
  obtain ⟨l', x, rfl⟩ := snoc_of h
  rw [lastI_snoc]
  simp
theorem Nrm.lst {p : Int} {l : List Int} (h : Nrm p l) (q : l ≠ []) : 0 < lastI l ∧ lastI l < p := by
  have h1 := h.1 _ (lastI_mem q)
  have h2 := h.2 q
  omega
theorem rangeC_mem {lo : Int} {n : Nat} {x : Int} (h : x ∈ rangeC lo (-1) n) : x ≤ lo ∧ lo - n < x := by
  obtain ⟨k, hk, rfl⟩ := List.mem_map.mp h
  have := List.mem_range.mp hk
  omega
theorem pinv_mem {p n : Int} (hp : Pm p) (hn : n % p ≠ 0) : 1 ≤ pinv p n ∧ pinv p n < p ∧ pinv p n * n % p = 1 := by
  have h := inv_ne hp hn
  unfold pinv
  cases e : ((rangeI 1 (p - 1).toNat).filter fun low => decide (low * n % p = 1)) with
  | nil => exact absurd e h
  | cons x xs =>
    have hx : x ∈ (rangeI 1 (p - 1).toNat).filter fun low => decide (low * n % p = 1) := by rw [e]; exact List.mem_cons_self
    obtain ⟨h1, h2⟩ := List.mem_filter.mp hx
    have h3 := rangeI_mem h1
    have := hp.ge
    exact ⟨h3.1, by show x < p; omega, of_decide_eq_true h2⟩
end Cw
set_option maxHeartbeats 4000000
namespace Cw
open Lean.Grind
/-! ### numbers modulo p -/
def zmS (p : Int) : Setoid Int := ⟨fun a b => a % p = b % p, ⟨fun _ => rfl, fun h => h.symm, fun h k => h.trans k⟩⟩
def ZM (p : Int) : Type := Quotient (zmS p)
namespace ZM
variable {p : Int}
def mk (p : Int) (a : Int) : ZM p := Quotient.mk (zmS p) a
theorem sound {a b : Int} (h : a % p = b % p) : mk p a = mk p b := Quotient.sound (s := zmS p) h
theorem exact {a b : Int} (h : mk p a = mk p b) : a % p = b % p := Quotient.exact (s := zmS p) h
theorem ind {P : ZM p → Prop} (h : ∀ a, P (mk p a)) (x : ZM p) : P x := Quotient.ind (s := zmS p) h x
theorem ind2 {P : ZM p → ZM p → Prop} (h : ∀ a b, P (mk p a) (mk p b)) (x y : ZM p) : P x y := ind (P := fun x => P x y) (fun a => ind (P := fun y => P (mk p a) y) (fun b => h a b) y) x
theorem ind3 {P : ZM p → ZM p → ZM p → Prop} (h : ∀ a b c, P (mk p a) (mk p b) (mk p c)) (x y z : ZM p) : P x y z := ind (P := fun x => P x y z) (fun a => ind2 (P := fun y z => P (mk p a) y z) (fun b c => h a b c) y z) x
def add (x y : ZM p) : ZM p := Quotient.liftOn₂ (s₁ := zmS p) (s₂ := zmS p) x y (fun a b => mk p (a + b)) fun a b c d h k => sound (by rw [Int.add_emod, show a % p = c % p from h, show b % p = d % p from k, ← Int.add_emod])
def mul (x y : ZM p) : ZM p := Quotient.liftOn₂ (s₁ := zmS p) (s₂ := zmS p) x y (fun a b => mk p (a * b)) fun a b c d h k => sound (by rw [Int.mul_emod, show a % p = c % p from h, show b % p = d % p from k, ← Int.mul_emod])
theorem neg_mod {a b : Int} (h : a % p = b % p) : (-a) % p = (-b) % p := by
  have : (0 - a) % p = (0 - b) % p := by rw [Int.sub_emod, h, ← Int.sub_emod]
  simpa using this
def neg (x : ZM p) : ZM p := Quotient.liftOn (s := zmS p) x (fun a => mk p (-a)) fun a b h => sound (neg_mod h)
instance : Add (ZM p) := ⟨add⟩
instance : Mul (ZM p) := ⟨mul⟩
instance : Neg (ZM p) := ⟨neg⟩
instance : Sub (ZM p) := ⟨fun x y => x + -y⟩
instance : NatCast (ZM p) := ⟨fun n => mk p n⟩
instance : IntCast (ZM p) := ⟨fun n => mk p n⟩
instance instOfNatZ (n : Nat) : OfNat (ZM p) n := ⟨mk p n⟩
instance : SMul Nat (ZM p) := ⟨fun n x => mk p n * x⟩
instance : SMul Int (ZM p) := ⟨fun n x => mk p n * x⟩
def pow (x : ZM p) : Nat → ZM p
  | 0 => mk p 1
  | n + 1 => pow x n * x
instance : HPow (ZM p) Nat (ZM p) := ⟨pow⟩
theorem mk_add (a b : Int) : mk p a + mk p b = mk p (a + b) := rfl
theorem mk_mul (a b : Int) : mk p a * mk p b = mk p (a * b) := rfl
theorem mk_neg (a : Int) : -mk p a = mk p (-a) := rfl
theorem mk_sub (a b : Int) : mk p a - mk p b = mk p (a - b) := by rw [Int.sub_eq_add_neg]; rfl
theorem mk_zero : mk p 0 = 0 := rfl
theorem mk_one : mk p 1 = 1 := rfl
instance : CommRing (ZM p) where
  add_zero := ind fun a => congrArg (mk p) (Int.add_zero a)
  add_comm := ind2 fun a b => congrArg (mk p) (Int.add_comm a b)
  add_assoc := ind3 fun a b c => congrArg (mk p) (Int.add_assoc a b c)
  mul_assoc := ind3 fun a b c => congrArg (mk p) (Int.mul_assoc a b c)
  mul_one := ind fun a => congrArg (mk p) (Int.mul_one a)
  one_mul := ind fun a => congrArg (mk p) (Int.one_mul a)
  left_distrib := ind3 fun a b c => congrArg (mk p) (Int.mul_add a b c)
  right_distrib := ind3 fun a b c => congrArg (mk p) (Int.add_mul a b c)
  zero_mul := ind fun a => congrArg (mk p) (Int.zero_mul a)
  mul_zero := ind fun a => congrArg (mk p) (Int.mul_zero a)
  mul_comm := ind2 fun a b => congrArg (mk p) (Int.mul_comm a b)
  pow_zero := fun _ => rfl
  pow_succ := fun _ _ => rfl
  ofNat_succ := fun n => congrArg (mk p) (by show ((n + 1 : Nat) : Int) = (n : Int) + 1; omega)
  ofNat_eq_natCast := fun _ => rfl
  nsmul_eq_natCast_mul := fun _ _ => rfl
  neg_add_cancel := ind fun a => congrArg (mk p) (Int.add_left_neg a)
  sub_eq_add_neg := fun _ _ => rfl
  neg_zsmul := fun i => ind fun a => congrArg (mk p) (Int.neg_mul i a)
  zsmul_natCast_eq_nsmul := fun _ _ => rfl
  intCast_ofNat := fun _ => rfl
  intCast_neg := fun _ => rfl
theorem mod_mk {a : Int} : mk p (a % p) = mk p a := sound (Int.emod_emod_of_dvd _ (Int.dvd_refl p))
theorem eq_zero {a : Int} : mk p a = 0 ↔ a % p = 0 := ⟨fun h => by have := exact (b := 0) h; simpa using this, fun h => sound (by rw [h]; simp)⟩
theorem self_zero : mk p p = 0 := eq_zero.mpr (Int.emod_self)
end ZM
/-! ### series -/
def PS (R : Type) : Type := Nat → R
namespace PS
section
variable {R : Type} [CommRing R]
def nc (n : Nat) : R := (Semiring.natCast (α := R)).natCast n
def zc (n : Int) : R := (Ring.intCast (α := R)).intCast n
def sh (f : PS R) : PS R := fun n => f (n + 1)
def mulR (f g : PS R) : Nat → R
  | 0 => f 0 * g 0
  | n + 1 => f 0 * g (n + 1) + mulR (sh f) g n
def C (c : R) : PS R := fun n => if n = 0 then c else 0
instance : Add (PS R) := ⟨fun f g n => f n + g n⟩
instance : Mul (PS R) := ⟨fun f g n => mulR f g n⟩
instance : Neg (PS R) := ⟨fun f n => -f n⟩
instance : Sub (PS R) := ⟨fun f g n => f n - g n⟩
instance : NatCast (PS R) := ⟨fun n => C (nc n)⟩
instance : IntCast (PS R) := ⟨fun n => C (zc n)⟩
instance instOfNatP (n : Nat) : OfNat (PS R) n := ⟨C (OfNat.ofNat n)⟩
instance : SMul Nat (PS R) := ⟨fun n f => C (nc n) * f⟩
instance : SMul Int (PS R) := ⟨fun n f => C (zc n) * f⟩
def pow (f : PS R) : Nat → PS R
  | 0 => C 1
  | n + 1 => pow f n * f
instance : HPow (PS R) Nat (PS R) := ⟨pow⟩
theorem add_at (f g : PS R) (n : Nat) : (f + g) n = f n + g n := rfl
theorem sub_at (f g : PS R) (n : Nat) : (f - g) n = f n - g n := rfl
theorem neg_at (f : PS R) (n : Nat) : (-f) n = -f n := rfl
theorem mul_at0 (f g : PS R) : (f * g) 0 = f 0 * g 0 := rfl
theorem mul_atS (f g : PS R) (n : Nat) : (f * g) (n + 1) = f 0 * g (n + 1) + (sh f * g) n := rfl
theorem sh_at (f : PS R) (n : Nat) : sh f n = f (n + 1) := rfl
theorem C_0 (c : R) : C c 0 = c := rfl
theorem C_S (c : R) (n : Nat) : C c (n + 1) = 0 := rfl
theorem zero_at (n : Nat) : (0 : PS R) n = 0 := by
  show C (0 : R) n = 0
  cases n <;> rfl
theorem one_at (n : Nat) : (1 : PS R) n = if n = 0 then 1 else 0 := rfl
theorem ext {f g : PS R} (h : ∀ n, f n = g n) : f = g := funext h
theorem mul_atS' : ∀ (n : Nat) (f g : PS R), (f * g) (n + 1) = f (n + 1) * g 0 + (f * sh g) n
  | 0, f, g => by
    rw [mul_atS, mul_at0, mul_at0, sh_at, sh_at]
    grind
  | n + 1, f, g => by
    rw [mul_atS, mul_atS' n (sh f) g, mul_atS]
    rw [sh_at, sh_at]
    grind
theorem mul_comm' : ∀ (n : Nat) (f g : PS R), (f * g) n = (g * f) n
  | 0, f, g => by rw [mul_at0, mul_at0]; grind
  | n + 1, f, g => by rw [mul_atS, mul_atS', mul_comm' n]; grind
theorem add_mul' : ∀ (n : Nat) (f g h : PS R), ((f + g) * h) n = (f * h) n + (g * h) n
  | 0, f, g, h => by rw [mul_at0, mul_at0, mul_at0, add_at]; grind
  | n + 1, f, g, h => by
    rw [mul_atS, mul_atS, mul_atS, add_at, show sh (f + g) = sh f + sh g from rfl, add_mul' n]
    grind
theorem C_mul : ∀ (n : Nat) (c : R) (f : PS R), (C c * f) n = c * f n
  | 0, c, f => rfl
  | n + 1, c, f => by
    rw [mul_atS, C_0, show sh (C c) = C (0 : R) from funext fun n => by cases n <;> rfl, C_mul n]
    grind
theorem mul_assoc' : ∀ (n : Nat) (f g h : PS R), ((f * g) * h) n = (f * (g * h)) n
  | 0, f, g, h => by rw [mul_at0, mul_at0, mul_at0, mul_at0]; grind
  | n + 1, f, g, h => by
    have e : sh (f * g) = C (f 0) * sh g + sh f * g := funext fun k => by rw [sh_at, mul_atS, add_at, C_mul]; rfl
    rw [mul_atS, e, add_mul', mul_assoc' n (sh f) g h, mul_assoc' n (C (f 0)) (sh g) h, C_mul, mul_at0, mul_atS f, mul_atS g h]
    grind
instance : CommRing (PS R) where
  add_zero := fun a => ext fun n => by rw [add_at, zero_at]; grind
  add_comm := fun a b => ext fun n => by rw [add_at, add_at]; grind
  add_assoc := fun a b c => ext fun n => by rw [add_at, add_at, add_at, add_at]; grind
  mul_assoc := fun a b c => ext fun n => mul_assoc' n a b c
  mul_one := fun a => ext fun n => by rw [mul_comm']; show ((C 1 : PS R) * a) n = a n; rw [C_mul]; grind
  one_mul := fun a => ext fun n => by show ((C 1 : PS R) * a) n = a n; rw [C_mul]; grind
  left_distrib := fun a b c => ext fun n => by rw [mul_comm', add_mul', add_at, mul_comm' n b, mul_comm' n c]
  right_distrib := fun a b c => ext fun n => add_mul' n a b c
  zero_mul := fun a => ext fun n => by show ((C 0 : PS R) * a) n = _; rw [C_mul, zero_at]; grind
  mul_zero := fun a => ext fun n => by rw [mul_comm']; show ((C 0 : PS R) * a) n = _; rw [C_mul, zero_at]; grind
  mul_comm := fun a b => ext fun n => mul_comm' n a b
  pow_zero := fun _ => rfl
  pow_succ := fun _ _ => rfl
  ofNat_succ := fun n => ext fun k => by
    show C (OfNat.ofNat (n + 1) : R) k = C (OfNat.ofNat n : R) k + C (1 : R) k
    cases k with
    | zero => exact Semiring.ofNat_succ n
    | succ k => show (0 : R) = 0 + 0; grind
  ofNat_eq_natCast := fun n => ext fun k => by
    show C (OfNat.ofNat n : R) k = C (nc n) k
    rw [Semiring.ofNat_eq_natCast]
    rfl
  nsmul_eq_natCast_mul := fun _ _ => rfl
  neg_add_cancel := fun a => ext fun n => by rw [add_at, neg_at, zero_at]; grind
  sub_eq_add_neg := fun a b => ext fun n => by rw [add_at, neg_at, sub_at]; grind
  neg_zsmul := fun i a => ext fun n => by
    show ((C (zc (-i)) : PS R) * a) n = -(((C (zc i) : PS R) * a) n)
    rw [C_mul, C_mul, show (zc (-i) : R) = -zc i from Ring.intCast_neg i]; grind
  zsmul_natCast_eq_nsmul := fun n a => ext fun k => by
    show ((C (zc (n : Int)) : PS R) * a) k = ((C (nc n) : PS R) * a) k
    rw [show (zc (n : Int) : R) = nc n from Ring.intCast_natCast n]
  intCast_ofNat := fun n => ext fun k => by
    show C (zc (OfNat.ofNat n : Int)) k = C (OfNat.ofNat n : R) k
    rw [show (zc (OfNat.ofNat n : Int) : R) = OfNat.ofNat n from Ring.intCast_ofNat n]
  intCast_neg := fun i => ext fun k => by
    show C (zc (-i)) k = -(C (zc i : R) k)
    rw [show (zc (-i) : R) = -zc i from Ring.intCast_neg i]
    cases k with
    | zero => rfl
    | succ k => show (0 : R) = -0; grind
end
end PS
end Cw
set_option maxHeartbeats 4000000
namespace Cw
open Lean.Grind
abbrev PZ (p : Int) : Type := PS (ZM p)
def ps (p : Int) (l : List Int) : PZ p := fun i => ZM.mk p (cf l i)
namespace PS
section
variable {R : Type} [CommRing R]
/-- the i-th power of x -/
def X (i : Nat) : PS R := fun n => if n = i then 1 else 0
theorem X_zero : (X 0 : PS R) = 1 := rfl
theorem X_mul : ∀ (i : Nat) (g : PS R) (k : Nat), ((X i : PS R) * g) k = if i ≤ k then g (k - i) else 0
  | 0, g, k => by
    rw [X_zero, show (1 : PS R) * g = g by grind, if_pos (Nat.zero_le _)]
    rfl
  | i + 1, g, 0 => by
    rw [mul_at0, if_neg (by omega)]
    show (if 0 = i + 1 then (1 : R) else 0) * g 0 = 0
    rw [if_neg (by omega)]
    grind
  | i + 1, g, k + 1 => by
    have e : sh (X (i + 1) : PS R) = X i := funext fun n => by
      show (if n + 1 = i + 1 then (1 : R) else 0) = if n = i then 1 else 0
      by_cases h : n = i
      · rw [if_pos h, if_pos (by omega)]
      · rw [if_neg h, if_neg (by omega)]
    rw [mul_atS, e, X_mul i g k]
    have z : (X (i + 1) : PS R) 0 = 0 := if_neg (by omega)
    rw [z]
    by_cases h : i ≤ k
    · rw [if_pos h, if_pos (by omega), show k + 1 - (i + 1) = k - i by omega]; grind
    · rw [if_neg h, if_neg (by omega)]; grind
theorem C_add (a b : R) : (C (a + b) : PS R) = C a + C b := ext fun n => by
  rw [add_at]
  cases n with
  | zero => rfl
  | succ n => show (0 : R) = 0 + 0; grind
theorem C_mulC (a b : R) : (C (a * b) : PS R) = C a * C b := ext fun n => by
  rw [C_mul]
  cases n with
  | zero => rfl
  | succ n => show (0 : R) = a * 0; grind
theorem C_one : (C 1 : PS R) = 1 := rfl
theorem C_zero : (C 0 : PS R) = 0 := rfl
theorem C_neg (a : R) : (C (-a) : PS R) = -C a := ext fun n => by
  rw [neg_at]
  cases n with
  | zero => rfl
  | succ n => show (0 : R) = -0; grind
theorem X_add (i j : Nat) : (X i * X j : PS R) = X (i + j) := ext fun n => by
  rw [X_mul]
  show (if i ≤ n then (if n - i = j then (1 : R) else 0) else 0) = if n = i + j then 1 else 0
  by_cases h : n = i + j
  · rw [if_pos h, if_pos (by omega), if_pos (by omega)]
  · rw [if_neg h]
    by_cases q : i ≤ n
    · rw [if_pos q, if_neg (by omega)]
    · rw [if_neg q]
/-- nought from the power n on -/
def Lt (n : Nat) (f : PS R) : Prop := ∀ k, n ≤ k → f k = 0
end
end PS
section
variable {p : Int}
theorem ps_at (l : List Int) (i : Nat) : ps p l i = ZM.mk p (cf l i) := rfl
theorem ps_trim {l : List Int} : ps p (trim p l) = ps p l := PS.ext fun n => by
  rw [ps_at, ps_at, cf_trim, ZM.mod_mk]
theorem ps_nil : ps p [] = 0 := PS.ext fun n => by rw [PS.zero_at]; rfl
theorem ps_one : ps p [1] = 1 := PS.ext fun n => by
  rw [PS.one_at]
  cases n with
  | zero => rfl
  | succ n => rfl
theorem ps_inj (hp : 0 < p) {a b : List Int} (ha : Nrm p a) (hb : Nrm p b) (h : ps p a = ps p b) : a = b := ha.ext hb fun i => by
  have e : ZM.mk p (cf a i) = ZM.mk p (cf b i) := congrFun h i
  have e2 := ZM.exact e
  rw [Int.emod_eq_of_lt (ha.bd hp i).1 (ha.bd hp i).2, Int.emod_eq_of_lt (hb.bd hp i).1 (hb.bd hp i).2] at e2
  exact e2
theorem ps_lt {l : List Int} : PS.Lt l.length (ps p l) := fun k hk => by rw [ps_at, cf_out hk]; rfl
theorem len_lt (hp : 0 < p) {l : List Int} (h : Nrm p l) {n : Nat} (z : PS.Lt n (ps p l)) : l.length ≤ n := len_of_cf h fun k hk => by
  have e := ZM.eq_zero.mp (z k hk)
  rwa [Int.emod_eq_of_lt (h.bd hp k).1 (h.bd hp k).2] at e
theorem ps_padd {a b : List Int} : ps p (padd p a b) = ps p a + ps p b := PS.ext fun n => by
  unfold padd
  rw [ps_trim, PS.add_at, ps_at, ps_at, ps_at, ZM.mk_add, cf_mk]
  by_cases h : n < max a.length b.length
  · rw [if_pos h]
  · rw [if_neg h, cf_out (show a.length ≤ n by omega), cf_out (show b.length ≤ n by omega)]; rfl
theorem ps_pneg {a : List Int} : ps p (pneg p a) = -ps p a := PS.ext fun n => by
  unfold pneg
  rw [ps_trim, PS.neg_at, ps_at, ps_at, ZM.mk_neg, cf_map (by simp), Int.zero_sub]
theorem ps_psub {a b : List Int} : ps p (psub p a b) = ps p a - ps p b := by
  unfold psub
  rw [ps_padd, ps_pneg]; grind
theorem ps_pscl {a : List Int} {n : Int} : ps p (pscl p a n) = PS.C (ZM.mk p n) * ps p a := PS.ext fun k => by
  unfold pscl
  rw [ps_trim, PS.C_mul, ps_at, ps_at, ZM.mk_mul, cf_map (by simp), Int.mul_comm]
theorem sm_first {n : Nat} {f : Nat → Int} : sm (n + 1) f = f 0 + sm n fun i => f (i + 1) := by
  induction n with
  | zero => rw [sm_succ, sm_zero, sm_zero]; omega
  | succ n ih => rw [sm_succ, ih, sm_succ]; omega
def up (p : Int) (f : Nat → Int) : PZ p := fun i => ZM.mk p (f i)
theorem mk_conv : ∀ (k : Nat) (f g : Nat → Int), ZM.mk p (sm (k + 1) fun i => f i * g (k - i)) = (up p f * up p g) k
  | 0, f, g => by rw [sm_succ, sm_zero, PS.mul_at0, Int.zero_add]; rfl
  | k + 1, f, g => by
    have ih := mk_conv k (fun i => f (i + 1)) g
    rw [sm_first, PS.mul_atS, ← ZM.mk_add]
    have e : (sm (k + 1) fun i => f (i + 1) * g (k + 1 - (i + 1))) = sm (k + 1) fun i => f (i + 1) * g (k - i) := sm_congr fun i hi => by rw [show k + 1 - (i + 1) = k - i by omega]
    rw [e, ih]
    rfl
theorem ps_pmul {a b : List Int} : ps p (pmul p a b) = ps p a * ps p b := PS.ext fun k => by
  rw [ps_at, cf_pmul, ZM.mod_mk]
  exact mk_conv k (cf a) (cf b)
theorem pz_set {l : List Int} {i : Nat} {n : Int} (hi : i < l.length) (h0 : cf l i = 0) : ps p (l.set i n) = ps p l + PS.C (ZM.mk p n) * PS.X i := PS.ext fun k => by
  rw [ps_at, cf_set hi, PS.add_at, PS.C_mul, ps_at]
  show _ = ZM.mk p (cf l k) + ZM.mk p n * (if k = i then 1 else 0)
  by_cases h : k = i
  · subst h
    rw [if_pos rfl, if_pos rfl, h0]
    have : ZM.mk p 0 = 0 := rfl
    grind
  · rw [if_neg h, if_neg h]; grind
theorem cf_subAt {i : Nat} {n : Int} : ∀ (b l : List Int), i + b.length ≤ l.length → ∀ k, cf (subAt p i n b l) k % p = (cf l k - if i ≤ k then n * cf b (k - i) else 0) % p := by
  intro b
  induction b using snoc_ind with
  | h0 =>
    intro l _ k
    show cf l k % p = _
    rw [cf_nil]
    congr 1
    split <;> omega
  | hs b y ih =>
    intro l hl k
    rw [List.length_append, List.length_singleton] at hl
    have e : subAt p i n (b ++ [y]) l = (subAt p i n b l).set (i + b.length) ((cf (subAt p i n b l) (i + b.length) - n * y) % p) := by
      unfold subAt
      rw [enumI_snoc, List.foldl_append]
      simp only [List.foldl_cons, List.foldl_nil]
      rw [show ((i : Int) + (b.length : Int)).toNat = i + b.length by omega]
    rw [e, cf_set (by rw [subAt_len]; omega)]
    by_cases hk : k = i + b.length
    · subst hk
      rw [if_pos rfl, Int.emod_emod_of_dvd _ (Int.dvd_refl p), if_pos (by omega), show i + b.length - i = b.length by omega, cf_snoc, if_pos rfl]
      have := ih l (by omega) (i + b.length)
      rw [if_pos (by omega), show i + b.length - i = b.length by omega, cf_out (Nat.le_refl b.length), Int.mul_zero, Int.sub_zero] at this
      rw [Int.sub_emod, this, ← Int.sub_emod]
    · rw [if_neg hk, ih l (by omega)]
      by_cases h : i ≤ k
      · rw [if_pos h, if_pos h, cf_snoc, if_neg (by omega)]
      · rw [if_neg h, if_neg h]
theorem ps_subAt {i : Nat} {n : Int} {b l : List Int} (h : i + b.length ≤ l.length) : ps p (subAt p i n b l) = ps p l - PS.C (ZM.mk p n) * (PS.X i * ps p b) := PS.ext fun k => by
  rw [ps_at, PS.sub_at, PS.C_mul, PS.X_mul, ps_at, ps_at, ZM.sound (cf_subAt b l h k), ← ZM.mk_sub]
  by_cases q : i ≤ k
  · rw [if_pos q, if_pos q, ZM.mk_mul]
  · rw [if_neg q, if_neg q, ZM.mk_zero]; grind
theorem rangeC_succ {lo c : Int} {n : Nat} : rangeC lo c (n + 1) = rangeC lo c n ++ [lo + (n : Int) * c] := by
  unfold rangeC
  rw [List.range_succ, List.map_append]
  rfl
/-- the long division -/
theorem div_inv (hp : Pm p) {a b : List Int} (hb : b ≠ []) (nb : Nrm p b) (t : Nat) (ht : (t : Int) ≤ (a.length : Int) - b.length + 1) :
    let s := (rangeC ((a.length : Int) - b.length) (-1) t).foldl (divStep p (pinv p (lastI b)) b) (a, List.replicate (max ((a.length : Int) - b.length + 1) 0).toNat 0)
    ps p a = ps p s.2 * ps p b + ps p s.1 ∧ PS.Lt (a.length - t) (ps p s.1) ∧ ∀ i : Nat, (i : Int) ≤ (a.length : Int) - b.length - t → cf s.2 i = 0 := by
  induction t with
  | zero =>
    refine ⟨?_, ?_, fun i _ => cf_rep⟩
    · show ps p a = ps p (List.replicate _ 0) * ps p b + ps p a
      have : ps p (List.replicate (max ((a.length : Int) - b.length + 1) 0).toNat 0) = 0 := PS.ext fun n => by rw [ps_at, cf_rep, PS.zero_at]; rfl
      rw [this]; grind
    · exact fun k hk => ps_lt (l := a) k (by omega)
  | succ t ih =>
    obtain ⟨h1, h2, h3⟩ := ih (by omega)
    have hg := divG_len (p := p) (back := pinv p (lastI b)) (b := b) (rangeC ((a.length : Int) - b.length) (-1) t) (a, List.replicate (max ((a.length : Int) - b.length + 1) 0).toNat 0)
    rw [rangeC_succ, List.foldl_append]
    generalize hs : (rangeC ((a.length : Int) - b.length) (-1) t).foldl (divStep p (pinv p (lastI b)) b) (a, List.replicate (max ((a.length : Int) - b.length + 1) 0).toNat 0) = s at *
    obtain ⟨r, q⟩ := s
    simp only [List.length_replicate] at hg
    have hbl := List.length_pos_iff.mpr hb
    obtain ⟨at_, hat⟩ : ∃ at_ : Nat, (a.length : Int) - b.length + (t : Int) * (-1) = at_ := ⟨((a.length : Int) - b.length + (t : Int) * (-1)).toNat, by omega⟩
    rw [hat]
    simp only [List.foldl_cons, List.foldl_nil, divStep]
    rw [show ((at_ : Int) + b.length - 1).toNat = at_ + b.length - 1 by omega, show (at_ : Int).toNat = at_ by omega]
    have e1 := ps_subAt (p := p) (i := at_) (n := cf r (at_ + b.length - 1) * pinv p (lastI b) % p) (b := b) (l := r) (by omega)
    have e2 := pz_set (p := p) (l := q) (i := at_) (n := cf r (at_ + b.length - 1) * pinv p (lastI b) % p) (by omega) (h3 at_ (by omega))
    have hl0 := nb.lst hb
    have hinv := pinv_mem hp (n := lastI b) (by rw [Int.emod_eq_of_lt (by omega) (by omega)]; omega)
    rw [e1, e2]
    refine ⟨?_, fun k hk => ?_, fun i hi => ?_⟩
    · simp only at h1
      rw [h1]; grind
    · rw [PS.sub_at, PS.C_mul, PS.X_mul, if_pos (by omega)]
      by_cases hk2 : a.length - t ≤ k
      · have z1 : ps p r k = 0 := h2 k hk2
        rw [z1, show ps p b (k - at_) = 0 from ps_lt _ (by omega)]; grind
      · have ek : k = at_ + b.length - 1 := by omega
        subst ek
        rw [show at_ + b.length - 1 - at_ = b.length - 1 by omega, ps_at, ps_at, ← lastI_cf hb, ZM.mod_mk, ← ZM.mk_mul]
        have hl : ZM.mk p (pinv p (lastI b)) * ZM.mk p (lastI b) = 1 := by
          rw [ZM.mk_mul]
          exact ZM.sound (by rw [hinv.2.2]; exact (Int.emod_eq_of_lt (by omega) (by have := hp.ge; omega)).symm)
        grind
    · rw [cf_set (by omega), if_neg (by omega)]
      exact h3 i (by omega)
theorem prem_nrm (hp : 0 < p) {a b : List Int} : Nrm p (prem p a b) := trim_nrm hp _
theorem pquo_nrm (hp : 0 < p) {a b : List Int} : Nrm p (pquo p a b) := trim_nrm hp _
theorem div_eq (hp : Pm p) {a b : List Int} (hb : b ≠ []) (nb : Nrm p b) : ps p a = ps p (pquo p a b) * ps p b + ps p (prem p a b) ∧ (prem p a b).length < b.length := by
  have hbl := List.length_pos_iff.mpr hb
  unfold pquo prem
  rw [ps_trim, ps_trim]
  by_cases h : b.length ≤ a.length
  · have := div_inv hp (a := a) hb nb ((a.length : Int) - b.length - (-1)).toNat (by omega)
    obtain ⟨h1, h2, h3⟩ := this
    refine ⟨h1, ?_⟩
    have := len_lt hp.pos (trim_nrm hp.pos (divF p a b).1) (n := b.length - 1) (by
      rw [ps_trim]
      exact fun k hk => h2 k (by omega))
    omega
  · have e : ((a.length : Int) - b.length - (-1)).toNat = 0 := by omega
    have e2 : divF p a b = (a, []) := by
      unfold divF
      rw [e, show (max ((a.length : Int) - b.length + 1) 0).toNat = 0 by omega]
      rfl
    rw [e2]
    refine ⟨?_, ?_⟩
    · rw [ps_nil]; grind
    · exact Nat.lt_of_le_of_lt trim_len (by show a.length < _; omega)
end
end Cw
set_option maxHeartbeats 4000000
namespace Cw
open PySem PySem.Spec PyProof.Rows L2
/-! ### the common factor -/
abbrev Tri : Type := List Int × List Int × List Int
def triD (t : Tri) : D := .tup [inD t.1, inD t.2.1, inD t.2.2]
def egStep (p : Int) (s : Tri × Tri) : Tri × Tri := (s.2, (prem p s.1.1 s.2.1, psub p s.1.2.1 (pmul p (pquo p s.1.1 s.2.1) s.2.2.1), psub p s.1.2.2 (pmul p (pquo p s.1.1 s.2.1) s.2.2.2)))
def egC (s : Tri × Tri) : Bool := !decide (s.2.1 = [])
def eg0 (a b : List Int) : Tri × Tri := ((a, [1], []), (b, [], [1]))
def egF (p : Int) (a b : List Int) : Tri × Tri := whileN egC (egStep p) b.length (eg0 a b)
def pgcd3 (p : Int) (a b : List Int) : Tri :=
  if (egF p a b).1.1 = [] then ([], [], []) else
    (pscl p (egF p a b).1.1 (pinv p (lastI (egF p a b).1.1)), pscl p (egF p a b).1.2.1 (pinv p (lastI (egF p a b).1.1)), pscl p (egF p a b).1.2.2 (pinv p (lastI (egF p a b).1.1)))
def pgcd (p : Int) (a b : List Int) : List Int := (pgcd3 p a b).1
/-- lengths and normality while it runs -/
structure EgI (p : Int) (B : Nat) (s : Tri × Tri) : Prop where
  n1 : Nrm p s.1.1
  n2 : Nrm p s.2.1
  a1 : s.2.2.1.length + s.1.1.length ≤ B
  a2 : s.2.2.2.length + s.1.1.length ≤ B
  c1 : s.1.2.1.length + s.2.1.length ≤ B
  c2 : s.1.2.2.length + s.2.1.length ≤ B
  m1 : ∀ x ∈ s.1.2.1, 0 ≤ x ∧ x < p
  m2 : ∀ x ∈ s.1.2.2, 0 ≤ x ∧ x < p
  m3 : ∀ x ∈ s.2.2.1, 0 ≤ x ∧ x < p
  m4 : ∀ x ∈ s.2.2.2, 0 ≤ x ∧ x < p
theorem eg_start {p : Int} (hp : Pm p) {a b : List Int} (ha : Nrm p a) (hb : Nrm p b) : EgI p (a.length + b.length + 1) (eg0 a b) := by
  have := hp.ge
  refine ⟨ha, hb, ?_, ?_, ?_, ?_, ?_, ?_, ?_, ?_⟩ <;> simp [eg0] <;> omega
theorem eg_len {p : Int} (hp : 0 < p) {B l h : Nat} {x y q : List Int} (hq : q.length ≤ l + 1 - h) (hy : y.length + l ≤ B) (hx : x.length + h ≤ B) (h0 : 0 < h) : (psub p x (pmul p q y)).length + h ≤ B := by
  have h1 := psub_len (p := p) (a := x) (b := pmul p q y)
  by_cases e : q = []
  · subst e
    rw [pmul_nil] at h1 ⊢
    simp only [List.length_nil, Nat.max_zero] at h1
    omega
  · have h2 := pmul_len2 hp (a := q) (b := y)
    have h3 := List.length_pos_iff.mpr e
    omega
theorem eg_turn {p : Int} (hp : Pm p) {B : Nat} {s : Tri × Tri} (i : EgI p B s) (h : egC s = true) : EgI p B (egStep p s) ∧ (egStep p s).2.1.length < s.2.1.length := by
  have hne : s.2.1 ≠ [] := by simpa [egC] using h
  have hl := List.length_pos_iff.mpr hne
  have hd := (div_eq hp (a := s.1.1) hne i.n2).2
  have hr := prem_len (p := p) (a := s.1.1) (b := s.2.1)
  have hq := pquo_len (p := p) (a := s.1.1) (b := s.2.1)
  have i1 := i.a1
  have i2 := i.a2
  refine ⟨⟨i.n2, prem_nrm hp.pos, ?_, ?_, ?_, ?_, i.m3, i.m4, ?_, ?_⟩, hd⟩
  · exact eg_len hp.pos hq i.a1 i.c1 hl
  · exact eg_len hp.pos hq i.a2 i.c2 hl
  · show s.2.2.1.length + (prem p s.1.1 s.2.1).length ≤ B
    omega
  · show s.2.2.2.length + (prem p s.1.1 s.2.1).length ≤ B
    omega
  · exact fun x hx => (trim_nrm hp.pos _).1 x hx
  · exact fun x hx => (trim_nrm hp.pos _).1 x hx
theorem while_inv {S : Type} {c : S → Bool} {f : S → S} {Iv : S → Prop} {μ : S → Nat} (h : ∀ s, Iv s → c s = true → Iv (f s) ∧ μ (f s) < μ s) : ∀ (n : Nat) (s : S), Iv s → μ s ≤ n → Iv (whileN c f n s) ∧ c (whileN c f n s) = false
  | 0, s, i, hn => ⟨i, by
    cases e : c s with
    | false => exact e
    | true => have := (h s i e).2; omega⟩
  | n + 1, s, i, hn => by
    show Iv (if c s = true then whileN c f n (f s) else s) ∧ c (if c s = true then whileN c f n (f s) else s) = false
    cases e : c s with
    | false => rw [if_neg Bool.false_ne_true]; exact ⟨i, e⟩
    | true =>
      rw [if_pos rfl]
      obtain ⟨h1, h2⟩ := h s i e
      exact while_inv h n (f s) h1 (by omega)
def p_common_with (ds : List D) (d : D) : Prop := ∃ p a b, ds = [.int p, inD a, inD b] ∧ Pm p ∧ a.length + b.length + 1 ≤ LM ∧ Nrm p a ∧ Nrm p b ∧ d = triD (pgcd3 p a b)
def p_common_of (ds : List D) (d : D) : Prop := ∃ p a b, ds = [.int p, inD a, inD b] ∧ Pm p ∧ a.length + b.length + 1 ≤ LM ∧ Nrm p a ∧ Nrm p b ∧ d = inD (pgcd p a b)
end Cw
set_option maxHeartbeats 4000000
namespace Cw
open Lean.Grind
/-! ### a field, a domain -/
theorem ZM.inv {p : Int} (hp : Pm p) (x : ZM p) (h : x ≠ 0) : ∃ y, x * y = 1 := by
  revert h
  refine ZM.ind (P := fun x => x ≠ 0 → ∃ y, x * y = 1) (fun a h => ?_) x
  have hn : a % p ≠ 0 := fun z => h (ZM.eq_zero.mpr z)
  obtain ⟨h1, h2, h3⟩ := pinv_mem hp hn
  refine ⟨ZM.mk p (pinv p a), ?_⟩
  rw [ZM.mk_mul, Int.mul_comm]
  exact ZM.sound (by rw [h3]; exact (Int.emod_eq_of_lt (by omega) (by have := hp.ge; omega)).symm)
theorem ZM.dom {p : Int} (hp : Pm p) {x y : ZM p} (h : x * y = 0) : x = 0 ∨ y = 0 := by
  by_cases hx : x = 0
  · exact .inl hx
  · obtain ⟨z, hz⟩ := ZM.inv hp x hx
    refine .inr ?_
    have : y = z * (x * y) := by grind
    rw [this, h]; grind
theorem ZM.one_ne {p : Int} (hp : Pm p) : (1 : ZM p) ≠ 0 := by
  intro z
  have := ZM.eq_zero.mp (show ZM.mk p 1 = 0 from z)
  have := hp.ge
  rw [Int.emod_eq_of_lt (by omega) (by omega)] at *
  omega
namespace PS
section
variable {R : Type} [CommRing R]
theorem mul_low : ∀ (i j : Nat) (f g : PS R), (∀ k, k < i → f k = 0) → (∀ k, k < j → g k = 0) → (f * g) (i + j) = f i * g j
  | 0, 0, f, g, _, _ => by rw [Nat.zero_add, mul_at0]
  | 0, j + 1, f, g, hf, hg => by
    have ih := mul_low 0 j f (sh g) hf fun k hk => hg (k + 1) (by omega)
    rw [Nat.zero_add] at ih ⊢
    rw [mul_atS', hg 0 (by omega), ih, sh_at]; grind
  | i + 1, j, f, g, hf, hg => by
    have ih := mul_low i j (sh f) g (fun k hk => hf (k + 1) (by omega)) hg
    rw [show i + 1 + j = (i + j) + 1 by omega, mul_atS, hf 0 (by omega), ih, sh_at]; grind
theorem low_of {f : PS R} (h : f ≠ 0) : ∃ i, f i ≠ 0 ∧ ∀ k, k < i → f k = 0 := by
  have : ∃ n, f n ≠ 0 := Classical.byContradiction fun z => h (ext fun n => by
    rw [zero_at]
    exact Classical.byContradiction fun w => z ⟨n, w⟩)
  obtain ⟨n, hn⟩ := this
  have key : ∀ (n : Nat), f n ≠ 0 → ∃ i, f i ≠ 0 ∧ ∀ k, k < i → f k = 0 := by
    intro n
    induction n using Nat.strongRecOn with
    | ind n ih =>
      intro hn
      by_cases q : ∃ k, k < n ∧ f k ≠ 0
      · obtain ⟨k, hk, hf⟩ := q
        exact ih k hk hf
      · exact ⟨n, hn, fun k hk => Classical.byContradiction fun w => q ⟨k, hk, w⟩⟩
  exact key n hn
end
theorem dom {p : Int} (hp : Pm p) {f g : PS (ZM p)} (h : f * g = 0) : f = 0 ∨ g = 0 := by
  by_cases hf : f = 0
  · exact .inl hf
  · refine .inr (Classical.byContradiction fun hg => ?_)
    obtain ⟨i, hi, hi2⟩ := low_of hf
    obtain ⟨j, hj, hj2⟩ := low_of hg
    have := mul_low i j f g hi2 hj2
    rw [h, zero_at] at this
    rcases ZM.dom hp this.symm with z | z
    · exact hi z
    · exact hj z
theorem cancel {p : Int} (hp : Pm p) {f g c : PS (ZM p)} (hc : c ≠ 0) (h : f * c = g * c) : f = g := by
  have : (f - g) * c = 0 := by grind
  rcases dom hp this with z | z
  · grind
  · exact absurd z hc
theorem one_ne {p : Int} (hp : Pm p) : (1 : PS (ZM p)) ≠ 0 := fun h => ZM.one_ne hp (congrFun h 0)
end PS
section
variable {p : Int}
theorem ps_ne (hp : 0 < p) {a : List Int} (ha : Nrm p a) (h : a ≠ []) : ps p a ≠ 0 := fun z => h (ps_inj hp ha nrm_nil (by rw [z, ps_nil]))
theorem ps_eq0 (hp : 0 < p) {a : List Int} (ha : Nrm p a) : ps p a = 0 ↔ a = [] := ⟨fun z => ps_inj hp ha nrm_nil (by rw [z, ps_nil]), fun z => by rw [z, ps_nil]⟩
/-! ### the highest power of a product -/
theorem sm_one {n j : Nat} {f : Nat → Int} (hj : j < n) (h : ∀ i, i < n → i ≠ j → f i = 0) : sm n f = f j := by
  induction n with
  | zero => omega
  | succ n ih =>
    rw [sm_succ]
    by_cases q : j = n
    · subst q
      rw [sm_zeros fun i hi => h i (by omega) (by omega)]; omega
    · rw [ih (by omega) fun i hi hne => h i (by omega) hne, h n (by omega) (by omega)]; omega
theorem conv_top {a b : List Int} (ha : a ≠ []) (hb : b ≠ []) : conv a b (a.length + b.length - 2) = lastI a * lastI b := by
  have h1 := List.length_pos_iff.mpr ha
  have h2 := List.length_pos_iff.mpr hb
  rw [lastI_cf ha, lastI_cf hb]
  unfold conv
  rw [sm_one (j := a.length - 1) (by omega) fun i hi hne => ?_, show a.length + b.length - 2 - (a.length - 1) = b.length - 1 by omega]
  by_cases q : a.length ≤ i
  · rw [cf_out q, Int.zero_mul]
  · rw [cf_out (show b.length ≤ a.length + b.length - 2 - i by omega), Int.mul_zero]
theorem mulmod_ne (hp : Pm p) {x y : Int} (hx : x % p ≠ 0) (hy : y % p ≠ 0) : x * y % p ≠ 0 := fun z => by
  have : ZM.mk p x * ZM.mk p y = 0 := by rw [ZM.mk_mul]; exact ZM.eq_zero.mpr z
  rcases ZM.dom hp this with w | w
  · exact hx (ZM.eq_zero.mp w)
  · exact hy (ZM.eq_zero.mp w)
theorem Nrm.lmod {l : List Int} (h : Nrm p l) (q : l ≠ []) : lastI l % p ≠ 0 := by
  have := h.lst q
  rw [Int.emod_eq_of_lt (by omega) (by omega)]; omega
theorem pmul_len3 (hp : Pm p) {a b : List Int} (na : Nrm p a) (nb : Nrm p b) (ha : a ≠ []) (hb : b ≠ []) : (pmul p a b).length = a.length + b.length - 1 := by
  have h1 := List.length_pos_iff.mpr ha
  have h2 := List.length_pos_iff.mpr hb
  refine Nat.le_antisymm (pmul_len2 hp.pos) ?_
  have ht : cf (pmul p a b) (a.length + b.length - 2) ≠ 0 := by
    rw [cf_pmul, conv_top ha hb]
    exact mulmod_ne hp (na.lmod ha) (nb.lmod hb)
  apply Decidable.byContradiction
  intro z
  exact ht (cf_out (by omega))
theorem pmul_last (hp : Pm p) {a b : List Int} (na : Nrm p a) (nb : Nrm p b) (ha : a ≠ []) (hb : b ≠ []) : pmul p a b ≠ [] ∧ lastI (pmul p a b) = lastI a * lastI b % p := by
  have h1 := List.length_pos_iff.mpr ha
  have h2 := List.length_pos_iff.mpr hb
  have hl := pmul_len3 hp na nb ha hb
  have hne : pmul p a b ≠ [] := by intro z; rw [z] at hl; simp at hl; omega
  refine ⟨hne, ?_⟩
  rw [lastI_cf hne, hl, show a.length + b.length - 1 - 1 = a.length + b.length - 2 by omega, cf_pmul, conv_top ha hb]
/-! ### what divides -/
def Dvd (p : Int) (g a : List Int) : Prop := ∃ x, Nrm p x ∧ ps p a = ps p x * ps p g
theorem div_exact (hp : Pm p) {a g : List Int} (na : Nrm p a) (ng : Nrm p g) (hg : g ≠ []) (h : Dvd p g a) : ps p a = ps p (pquo p a g) * ps p g ∧ prem p a g = [] := by
  obtain ⟨x, nx, hx⟩ := h
  obtain ⟨h1, h2⟩ := div_eq hp (a := a) hg ng
  have hr : prem p a g = [] := by
    apply Classical.byContradiction
    intro hne
    -- rest = (x - q) * g
    have e : ps p (prem p a g) = ps p (psub p x (pquo p a g)) * ps p g := by
      rw [ps_psub]
      have : ps p (prem p a g) = ps p a - ps p (pquo p a g) * ps p g := by rw [h1]; grind
      rw [this, hx]; grind
    have nz : psub p x (pquo p a g) ≠ [] := by
      intro z
      rw [z, ps_nil] at e
      exact hne ((ps_eq0 hp.pos (prem_nrm hp.pos)).mp (by rw [e]; grind))
    have nn : Nrm p (psub p x (pquo p a g)) := trim_nrm hp.pos _
    have e2 : prem p a g = pmul p (psub p x (pquo p a g)) g := ps_inj hp.pos (prem_nrm hp.pos) (trim_nrm hp.pos _) (by rw [e, ps_pmul])
    have := pmul_len3 hp nn ng nz hg
    rw [← e2] at this
    have := List.length_pos_iff.mpr nz
    have := List.length_pos_iff.mpr hg
    omega
  refine ⟨?_, hr⟩
  rw [hr, ps_nil] at h1
  calc ps p a = _ := h1
    _ = _ := by grind
theorem quo_ne (hp : Pm p) {a g : List Int} (na : Nrm p a) (ng : Nrm p g) (hg : g ≠ []) (h : Dvd p g a) (ha : a ≠ []) : pquo p a g ≠ [] := fun z => by
  have := (div_exact hp na ng hg h).1
  rw [z, ps_nil] at this
  exact ha ((ps_eq0 hp.pos na).mp (by rw [this]; grind))
theorem quo_eq (hp : Pm p) {a g x : List Int} (na : Nrm p a) (ng : Nrm p g) (nx : Nrm p x) (hg : g ≠ []) (h : ps p a = ps p x * ps p g) : pquo p a g = x := by
  have := (div_exact hp na ng hg ⟨x, nx, h⟩).1
  exact ps_inj hp.pos (pquo_nrm hp.pos) nx (PS.cancel hp (ps_ne hp.pos ng hg) (by rw [← this, h]))
/-! ### Euclid -/
structure EgJ (p : Int) (a b : List Int) (s : Tri × Tri) : Prop where
  b1 : ps p s.1.1 = ps p s.1.2.1 * ps p a + ps p s.1.2.2 * ps p b
  b2 : ps p s.2.1 = ps p s.2.2.1 * ps p a + ps p s.2.2.2 * ps p b
  d1 : ∃ x y, ps p a = ps p x * ps p s.1.1 + ps p y * ps p s.2.1
  d2 : ∃ x y, ps p b = ps p x * ps p s.1.1 + ps p y * ps p s.2.1
theorem egj_start {a b : List Int} : EgJ p a b (eg0 a b) := by
  refine ⟨?_, ?_, ⟨[1], [], ?_⟩, ⟨[], [1], ?_⟩⟩ <;> simp only [eg0, ps_one, ps_nil] <;> grind
theorem egj_turn (hp : Pm p) {a b : List Int} {B : Nat} {s : Tri × Tri} (i : EgI p B s) (j : EgJ p a b s) (h : egC s = true) : EgJ p a b (egStep p s) := by
  have hne : s.2.1 ≠ [] := by simpa [egC] using h
  have hd := (div_eq hp (a := s.1.1) hne i.n2).1
  obtain ⟨x1, y1, h1⟩ := j.d1
  obtain ⟨x2, y2, h2⟩ := j.d2
  have hb1 := j.b1
  have hb2 := j.b2
  refine ⟨j.b2, ?_, ⟨padd p y1 (pmul p x1 (pquo p s.1.1 s.2.1)), x1, ?_⟩, ⟨padd p y2 (pmul p x2 (pquo p s.1.1 s.2.1)), x2, ?_⟩⟩
  · show ps p (prem p s.1.1 s.2.1) = ps p (psub p s.1.2.1 (pmul p (pquo p s.1.1 s.2.1) s.2.2.1)) * ps p a + ps p (psub p s.1.2.2 (pmul p (pquo p s.1.1 s.2.1) s.2.2.2)) * ps p b
    rw [ps_psub, ps_psub, ps_pmul, ps_pmul]
    generalize ps p (prem p s.1.1 s.2.1) = R at *
    generalize ps p (pquo p s.1.1 s.2.1) = Q at *
    grind
  · show ps p a = _ * ps p s.2.1 + ps p x1 * ps p (prem p s.1.1 s.2.1)
    rw [ps_padd, ps_pmul, h1]
    generalize ps p (prem p s.1.1 s.2.1) = R at *
    generalize ps p (pquo p s.1.1 s.2.1) = Q at *
    rw [hd]; grind
  · show ps p b = _ * ps p s.2.1 + ps p x2 * ps p (prem p s.1.1 s.2.1)
    rw [ps_padd, ps_pmul, h2]
    generalize ps p (prem p s.1.1 s.2.1) = R at *
    generalize ps p (pquo p s.1.1 s.2.1) = Q at *
    rw [hd]; grind
structure GcdOk (p : Int) (a b g : List Int) : Prop where
  nr : Nrm p g
  ne : g ≠ []
  mo : lastI g = 1
  da : Dvd p g a
  db : Dvd p g b
  bz : ∃ u v, ps p g = ps p u * ps p a + ps p v * ps p b
theorem nrmz (hp : 0 < p) (x : List Int) : ∃ y, Nrm p y ∧ ps p y = ps p x := ⟨trim p x, trim_nrm hp x, ps_trim⟩
theorem gcd_ok (hp : Pm p) {a b : List Int} (na : Nrm p a) (nb : Nrm p b) (h : a ≠ [] ∨ b ≠ []) : GcdOk p a b (pgcd p a b) := by
  obtain ⟨⟨iv, jv⟩, hc⟩ := while_inv (c := egC) (f := egStep p) (Iv := fun s => EgI p (a.length + b.length + 1) s ∧ EgJ p a b s) (μ := fun s => s.2.1.length) (fun s i h => ⟨⟨(eg_turn hp i.1 h).1, egj_turn hp i.1 i.2 h⟩, (eg_turn hp i.1 h).2⟩) b.length (eg0 a b) ⟨eg_start hp na nb, egj_start⟩ (Nat.le_refl _)
  have hF : egF p a b = whileN egC (egStep p) b.length (eg0 a b) := rfl
  unfold pgcd pgcd3
  rw [hF]
  generalize whileN egC (egStep p) b.length (eg0 a b) = s at *
  have h2 : s.2.1 = [] := by simpa [egC] using hc
  obtain ⟨x1, y1, h3⟩ := jv.d1
  obtain ⟨x2, y2, h4⟩ := jv.d2
  rw [h2, ps_nil] at h3 h4
  have hne : s.1.1 ≠ [] := by
    intro z
    rw [z, ps_nil] at h3 h4
    rcases h with w | w
    · exact w ((ps_eq0 hp.pos na).mp (by rw [h3]; grind))
    · exact w ((ps_eq0 hp.pos nb).mp (by rw [h4]; grind))
  rw [if_neg hne]
  obtain ⟨k1, k2, k3⟩ := pinv_mem hp (iv.n1.lmod hne)
  have hpg := hp.ge
  have hl : ZM.mk p (pinv p (lastI s.1.1)) * ZM.mk p (lastI s.1.1) = 1 := by
    rw [ZM.mk_mul]
    exact ZM.sound (by rw [k3]; exact (Int.emod_eq_of_lt (by omega) (by omega)).symm)
  have hC : (PS.C (ZM.mk p (pinv p (lastI s.1.1))) : PZ p) * PS.C (ZM.mk p (lastI s.1.1)) = 1 := by rw [← PS.C_mulC, hl]; rfl
  have hps : ps p (pscl p s.1.1 (pinv p (lastI s.1.1))) = PS.C (ZM.mk p (pinv p (lastI s.1.1))) * ps p s.1.1 := ps_pscl
  have nn : Nrm p (pscl p s.1.1 (pinv p (lastI s.1.1))) := trim_nrm hp.pos _
  have gne : pscl p s.1.1 (pinv p (lastI s.1.1)) ≠ [] := by
    intro z
    rw [z, ps_nil] at hps
    exact ps_ne hp.pos iv.n1 hne (by
      have : ps p s.1.1 = PS.C (ZM.mk p (lastI s.1.1)) * (PS.C (ZM.mk p (pinv p (lastI s.1.1))) * ps p s.1.1) := by grind
      rw [this, ← hps]; grind)
  have cst : ∀ n : Int, ps p [n] = PS.C (ZM.mk p n) := fun n => PS.ext fun k => by
    cases k with
    | zero => rfl
    | succ k => rfl
  have dv : ∀ (z x : List Int), ps p z = ps p x * ps p s.1.1 + (0 : PZ p) → Dvd p (pscl p s.1.1 (pinv p (lastI s.1.1))) z := fun z x e => by
    obtain ⟨y, ny, hy⟩ := nrmz hp.pos (pmul p x [lastI s.1.1])
    refine ⟨y, ny, ?_⟩
    rw [hy, ps_pmul, hps, cst, e]
    grind
  refine ⟨nn, gne, ?_, dv a x1 (by rw [h3]; grind), dv b x2 (by rw [h4]; grind), ?_⟩
  · have e : pscl p s.1.1 (pinv p (lastI s.1.1)) = pmul p s.1.1 [pinv p (lastI s.1.1)] := ps_inj hp.pos nn (trim_nrm hp.pos _) (by rw [hps, ps_pmul, cst]; grind)
    have n1 : Nrm p [pinv p (lastI s.1.1)] := ⟨fun x hx => by simp at hx; omega, fun _ => by show pinv p (lastI s.1.1) ≠ 0; omega⟩
    rw [e, (pmul_last hp iv.n1 n1 hne (by simp)).2]
    show lastI s.1.1 * pinv p (lastI s.1.1) % p = 1
    rw [Int.mul_comm, k3]
  · refine ⟨pmul p [pinv p (lastI s.1.1)] s.1.2.1, pmul p [pinv p (lastI s.1.1)] s.1.2.2, ?_⟩
    rw [hps, ps_pmul, ps_pmul, cst, jv.b1]
    grind
end
end Cw
set_option maxHeartbeats 4000000
namespace Cw
open PySem PySem.Spec PyProof.Rows L2
/-! the layer's rules, the written part named -/
section
variable {X : Cx} (K : Fg)
theorem ixl (h : X.K = K := by rfl) : IxR X (rIxL K) := by cases h; exact ix_list
theorem ixt (h : X.K = K := by rfl) : IxR X (rIxT K) := by cases h; exact ix_tup
theorem sll (h : X.K = K := by rfl) : SlR X (rSlL K) := by cases h; exact sl_list
theorem slt (h : X.K = K := by rfl) : SlR X (rSlT K) := by cases h; exact sl_tup
theorem opEq (hu : X.A.units + 64 < cLine) (h : X.K = K := by rfl) : OpR X (compareOp .Eq) (rEqD K) := by cases h; exact op_eqD hu
theorem opNe (hu : X.A.units + 64 < cLine) (h : X.K = K := by rfl) : OpR X (compareOp .NotEq) (rNeD K) := by cases h; exact op_neD hu
theorem inS (h : X.K = K := by rfl) : OpR X (compareOp .In) (rIn K false) := by cases h; exact op_in_seq
theorem niS (h : X.K = K := by rfl) : OpR X (compareOp .NotIn) (rIn K true) := by cases h; exact op_notIn_seq
theorem lenS (h : X.K = K := by rfl) : CallR X (.builtin "len") (fun xs H Q => ∃ p ys, xs = [V.ref p] ∧ (SqL K H p ys ∨ SqT K H p ys) ∧ Q (.int ys.length) H) := by cases h; exact call_len_seq
theorem lstOf (h : X.K = K := by rfl) : CallR X (.type "list") (fun xs H Q => ∃ p ys, xs = [V.ref p] ∧ (SqL K H p ys ∨ SqT K H p ys) ∧ ∀ l, H l = none → Q (.ref l) (upd H l (.lst ys))) := by cases h; exact call_list_of
theorem tupOf (h : X.K = K := by rfl) : CallR X (.type "tuple") (fun xs H Q => ∃ p ys, xs = [V.ref p] ∧ ((SqL K H p ys ∧ ∀ l, H l = none → Q (.ref l) (upd H l (.tup ys))) ∨ (SqT K H p ys ∧ Q (.ref p) H))) := by cases h; exact call_tuple_of
theorem sumS (hc : X.calm = true) (h : X.K = K := by rfl) : CallR X (.builtin "sum") (rSum K) := by cases h; exact cr_sum hc
theorem isiS (h : X.K = K := by rfl) : CallR X (.builtin "isinstance") (rIsi K) := by cases h; exact call_isi
theorem pil {tg l : Expr} {tl : TE} (hl : PE X l tl) (h : X.K = K := by rfl) : PI X tg l (iList K tl) := by cases h; exact pi_list hl
theorem pit {tg l : Expr} {tl : TE} (hl : PE X l tl) (h : X.K = K := by rfl) : PI X tg l (iTup K tl) := by cases h; exact pi_tup hl
theorem pien {e : Expr} {ta : TA} {p pos tpos : Pos} {elts : List Expr} {kk : Nat} (hg : Gl X "enumerate") (hm : X.mg "enumerate" = none) (ha : PA X [e] ta) (hs : starEach [e] X.env = [(false, eval e X.env)] := by rfl) (h : X.K = K := by rfl) :
    PI X (.Tuple elts kk tpos) (.Call (.Name "enumerate" p) [e] [] pos) (iEnum K ta) := by cases h; exact pi_enum hg hm ha hs
theorem pizip {e e2 : Expr} {ta : TA} {p pos tpos : Pos} {elts : List Expr} {kk : Nat} (hg : Gl X "zip") (hm : X.mg "zip" = none) (ha : PA X [e, e2] ta)
    (hs : starEach [e, e2] X.env = (false, eval e X.env) :: starEach [e2] X.env := by rfl) (hpl : (backTo pos (starEach [e2] X.env)).any (·.1) = false := by rfl) (h : X.K = K := by rfl) :
    PI X (.Tuple elts kk tpos) (.Call (.Name "zip" p) [e, e2] [] pos) (iZip K ta) := by cases h; exact pi_zip hg hm ha hs hpl
theorem pfld {e : Expr} {f : Str} {pos : Pos} {ta : TE} (he : PE X e ta) (hb : attributeBase e f X.env (eval e X.env) = eval e X.env) (h : X.K = K := by rfl) : PE X (.Attribute e f pos) (tFld K ta f) := by cases h; exact pe_fld he hb
theorem prevl {e : Expr} {te : TE} {k : Nat} {p1 p2 p3 pos : Pos} (he : PE X e te) (h : X.K = K := by rfl) : PE X (.Subscript e (.Slice none none (some (.UnaryOp .USub (.Constant (.int 1) k p1) p2)) p3) pos) (tRevL K te) := by cases h; exact pe_revL he
theorem pgt {es : List Expr} {k : Nat} {t : TGs} {n : Nat} {pos : Pos} (hc : X.calm = true) (h : PGs X es t)
    (hn : (assignEach es X.env).length = n := by rfl) (hst : (assignEach es X.env).findIdx? (·.1) = none := by rfl) (hk : X.K = K := by rfl) : PG X (.Tuple es k pos) (gTup K n t) := by cases hk; exact pg_tup hc h hn hst
end
end Cw
set_option maxHeartbeats 4000000
namespace Cw
open PySem PySem.Spec PyProof.Rows L2
section
variable {K : Fg} {G : Ctx} {te ta tb tc : TE} {tt tu : TT} {tr : TA} {t u r : TS} {d e : D}
theorem ev_isi {n m : String} {b : Bool} (h : EvD K ta G d) (ty : ∀ F v, Rep K F d v → TyX K F v (.type m)) (k : kitB m n = some b) : EvD K (tCB (rIsi K) (tCons ta (tCons (tC (.ty n)) tNil))) G (.bl b) := fun F0 H0 F H σ s Q q => h F0 H0 F H σ s _ fun v F1 H1 t1 r1 =>
  ⟨v, .ty n, _, _, b, rfl, .ty n, ty H1 v (Rep.mono t1.fh _ _ r1), kit_ty k, q _ F1 H1 t1 rfl⟩
theorem ty_int {i : Int} : ∀ F v, Rep K F (.int i) v → TyX K F v (.type "int") := fun F v h => by cases h; exact .base (.int i)
theorem ty_lst {ds : List D} : ∀ F v, Rep K F (.lst ds) v → TyX K F v (.type "list") := fun F v h => by
  obtain ⟨a, vs, rfl, h1, _⟩ := h
  exact .base (.lst h1)
theorem ev_isC {C : Addr} {ns : List Str} {ds : List D} (h : EvD K ta G (.ins C ns ds)) : EvD K (tCB (fun xs H Q => ∃ a dx fs, xs = [V.ref a, V.ref C] ∧ H a = some (.ins C dx fs) ∧ Q (.bl true) H) (tCons ta (tCons (tC (.ref C)) tNil))) G (.bl true) := fun F0 H0 F H σ s Q q => h F0 H0 F H σ s _ fun v F1 H1 t1 r1 => by
  obtain ⟨a, dx, us, rfl, h1, _⟩ := r1
  exact ⟨a, dx, _, rfl, t1.fh _ _ h1, q _ F1 H1 t1 rfl⟩
end
end Cw
namespace Cw
open PySem PySem.Spec PyProof.Rows L2
section
variable {K : Fg} {G : Ctx} {te ta tb tc : TE} {tt tu : TT} {tr : TA} {t u r : TS} {d e : D}
/-- x in, not in a tuple or list of ints -/
theorem inV_int {x : Int} : ∀ ns : List Int, inV (.int x) (ns.map V.int) = decide (x ∈ ns) := by
  intro ns
  unfold inV
  induction ns with
  | nil => rfl
  | cons n ns ih =>
    rw [List.map_cons, List.any_cons, ih]
    by_cases h : x = n
    · subst h; simp [eqV]
    · have h2 : ¬ n = x := fun z => h z.symm
      simp [eqV, h, h2]
theorem flat_ints : ∀ ns : List Int, (ns.map V.int).all flatV = true := by
  intro ns
  induction ns with
  | nil => rfl
  | cons n ns ih => rw [List.map_cons, List.all_cons, ih]; rfl
theorem ev_inT {neg : Bool} {x : Int} {ns : List Int} (ha : EvD K ta G (.int x)) (hb : EvD K tb G (.tup (ns.map D.int))) : EvD K (tOp (rIn K neg) ta tb) G (.bl (if neg then !decide (x ∈ ns) else decide (x ∈ ns))) := ev_op ha hb fun F H v w s hx hy Q q => by
  cases hx
  obtain ⟨a, vs, rfl, h1, h2⟩ := hy
  have e := h2.ints
  subst e
  refine ⟨a, _, rfl, .inr (sqT_mono s h1), rfl, flat_ints ns, q _ F H (Step.refl s) ?_⟩
  rw [inV_int]
  rfl
theorem ev_inL {neg : Bool} {x : Int} {ns : List Int} (ha : EvD K ta G (.int x)) (hb : EvD K tb G (inD ns)) : EvD K (tOp (rIn K neg) ta tb) G (.bl (if neg then !decide (x ∈ ns) else decide (x ∈ ns))) := ev_op ha hb fun F H v w s hx hy Q q => by
  cases hx
  obtain ⟨a, vs, rfl, h1, h2⟩ := hy
  have e := h2.ints
  subst e
  refine ⟨a, _, rfl, .inl (.inl (.inl (s _ _ h1))), rfl, flat_ints ns, q _ F H (Step.refl s) ?_⟩
  rw [inV_int]
  rfl
/-- a tuple of ints of the top -/
theorem ev_gtup {a : Addr} {ns : List Int} (h : ∀ H, SqT K H a (ns.map V.int)) : EvD K (tC (.ref a)) G (.tup (ns.map D.int)) := ev_glo fun F => ⟨a, _, rfl, h F, Reps.ofInts⟩
theorem ev_isN0 {i : Int} (ha : EvD K ta G (.int i)) : EvD K (tOp (fun x y H Q => y = .non ∧ Q (.bl (decide (x = .non))) H) ta (tC .non)) G (.bl false) := ev_op (b := .non) ha ev_non fun F H v w s hx hy Q q => by
  cases hx
  cases hy
  exact ⟨rfl, q _ F H (Step.refl s) rfl⟩
end
def p_is_whole (ds : List D) (d : D) : Prop := ∃ i, ds = [.int i] ∧ True ∧ d = .bl true
def p_is_between (ds : List D) (d : D) : Prop := ∃ v lo hi, ds = [.int v, .int lo, .int hi] ∧ True ∧ d = .bl (decide (lo ≤ v) && decide (v ≤ hi))
def p_check_number (ds : List D) (d : D) : Prop := ∃ v lo hi, ds = [.int v, .int lo, .int hi] ∧ lo ≤ v ∧ v ≤ hi ∧ d = .non
def p_check_prime (ds : List D) (d : D) : Prop := ∃ p, ds = [.int p] ∧ Pm p ∧ d = .non
def p_is_poly_list (ds : List D) (d : D) : Prop := ∃ p a, ds = [.int p, inD a] ∧ 0 < p ∧ Nrm p a ∧ a.length ≤ 61 ∧ d = .bl true
def p_check_poly (ds : List D) (d : D) : Prop := ∃ p a, ds = [.int p, inD a] ∧ 0 < p ∧ Nrm p a ∧ a.length ≤ 61 ∧ d = .non
end Cw
set_option maxHeartbeats 4000000
namespace Cw
open PySem PySem.Spec PyProof.Rows L2
/-! ### making objects -/
def spI (K : Fg) (C : Addr) (P : List D → D → Prop) : Sp := fun vs H Q _ => ∃ F x dx us ds ns fs, vs = .ref x :: us ∧ Same F H ∧ Reps K F ds us ∧ H x = some (.ins C dx []) ∧ F x = none ∧ P ds (.ins C ns fs) ∧
  ∀ ws F' H', Same F F' → (∀ b o, b ≠ x → H b = some o → H' b = some o) → Same F' H' → (∀ a, F' a ≠ none → F a ≠ none ∨ NewAt H a) → F' x = none → H' x = some (.ins C dx (ns.zip ws)) → ws.length = ns.length → Reps K F' fs ws → Q .non H'
section
variable {K : Fg} {G : Ctx} {te ta tb tc tv : TE} {tt tu : TT} {tr : TA} {t u r : TS} {d e : D} {ds fs : List D} {ns : List Str} {C : Addr}
/-- a new object of one's own: x stands apart -/
theorem mk_apart {P : List D → D → Prop} {E : XK} (h : EvA K tr G ds) (p : P ds (.ins C ns fs)) {F0 H0 F H : Hp} {σ : L2.St} (s : SOk K F0 H0 F H σ G) {Q : VK}
    (q : ∀ x dx ws F' H', Step F H F' H' → H x = none → F' x = none → H' x = some (.ins C dx (ns.zip ws)) → ws.length = ns.length → Reps K F' fs ws → Q (.ref x) H') : tMake C (spI K C P) [] E tr σ H Q := by
  refine h F0 H0 F H σ s _ fun vs F1 H1 t1 r1 x dx hx hdx hne => ?_
  have e1 : Same H1 (upd (upd H1 dx (.own x)) x (.ins C dx [])) := (same_new hdx).trans (same_new (by rw [upd_ne (Ne.symm hne)]; exact hx))
  refine ⟨F1, x, dx, vs, ds, ns, fs, by rw [List.append_nil], t1.fh.trans e1, r1, upd_same, t1.fh.free hx, p, fun ws F' H' a1 a2 a3 a4 a5 a6 a7 a8 => ⟨rfl, ?_⟩⟩
  refine q x dx ws F' H' (t1.trans ⟨a1, fun b o hb => a2 b o (ne_of_none hb hx) (e1 b o hb), a3, fun a n => ?_⟩) (t1.hh.free hx) a5 a6 a7 a8
  rcases a4 a n with z | z
  · exact .inl z
  · exact .inr (z.back e1)
theorem ev_make {P : List D → D → Prop} {E : XK} (h : EvA K tr G ds) (p : P ds (.ins C ns fs)) : EvD K (tMake C (spI K C P) [] E tr) G (.ins C ns fs) := fun F0 H0 F H σ s Q q =>
  mk_apart h p s fun x dx ws F' H' t hx hf hh hl r => q (.ref x) (upd F' x (.ins C dx (ns.zip ws))) H' (t.pub hx hf hh) ⟨x, dx, ws, rfl, upd_same, hl, Reps.mono (same_new hf) _ _ r⟩
theorem putF_snoc {f : Str} {v : V} : ∀ {ns : List Str} {ws : List V}, ws.length = ns.length → f ∉ ns → putF f v (ns.zip ws) = (ns ++ [f]).zip (ws ++ [v])
  | [], ws, hl, _ => by
    have : ws = [] := List.length_eq_zero_iff.mp (by simpa using hl)
    subst this
    rfl
  | n :: ns, [], hl, _ => by simp at hl
  | n :: ns, w :: ws, hl, hf => by
    have h1 : ¬ n = f := fun z => hf (by rw [z]; exact List.mem_cons_self)
    show (if n = f then (n, v) :: ns.zip ws else (n, w) :: putF f v (ns.zip ws)) = _
    rw [if_neg h1, putF_snoc (by simpa using hl) fun z => hf (List.mem_cons_of_mem _ z)]
    rfl
theorem SOk.mutX {F0 H0 F H : Hp} {σ : L2.St} (s : SOk K F0 H0 F H σ G) {x dx : Addr} {gs : List (Str × V)} {o : HO} (h0 : H0 x = none) (hf : F x = none) (hx : H x = some (.ins C dx gs)) : SOk K F0 H0 F (upd H x o) σ G where
  st := s.st.mutP h0 hf
  len := s.len
  sl := fun i c e => by
    obtain ⟨w, h1, h2⟩ := s.sl i c e
    refine ⟨w, h1, ?_⟩
    cases c with
    | un => trivial
    | val d => exact h2
    | prv k ds =>
      obtain ⟨b, ws, rfl, k1, k2, k3, k4⟩ := h2
      refine ⟨b, ws, rfl, ?_, k2, k3, k4⟩
      rw [upd_ne (fun z => ?_)]
      · exact k1
      · subst z
        rw [hx] at k1
        cases k <;> cases k1
  ap := s.ap
/-- self.f = e, the object apart -/
theorem fld_apart {f : Str} {F0 H0 F H : Hp} {σ : L2.St} {E : Ends} {i : Nat} {x dx : Addr} {ws : List V} (c : Cls K C) (n : NoAttr K C f) (hfn : f ∉ ns) (hl : ns.length < 999) (s : SOk K F0 H0 F H σ G) (h : EvD K tv G d) (hs : σ[i]? = some (some (.ref x))) (h0 : H0 x = none) (hf : F x = none) (hx : H x = some (.ins C dx (ns.zip ws))) (hw : ws.length = ns.length)
    (q : ∀ v F' H', Step F H F' H' → F' x = none → SOk K F0 H0 F' (upd H' x (.ins C dx ((ns ++ [f]).zip (ws ++ [v])))) σ G → Rep K F' d v → (upd H' x (.ins C dx ((ns ++ [f]).zip (ws ++ [v])))) x = some (.ins C dx ((ns ++ [f]).zip (ws ++ [v]))) → E.nx σ (upd H' x (.ins C dx ((ns ++ [f]).zip (ws ++ [v]))))) : sFld K (tVar i) tv f E σ H := by
  refine h F0 H0 F H σ s _ fun v F1 H1 t1 r1 => ⟨.ref x, hs, x, C, dx, ns.zip ws, rfl, (t1.kp hx hf).1, c, n, ?_, ?_⟩
  · rw [List.length_zip, hw]; omega
  · rw [putF_snoc hw hfn]
    exact q v F1 H1 t1 (t1.kp hx hf).2 ((s.step t1).mutX h0 (t1.kp hx hf).2 (t1.kp hx hf).1) r1 upd_same
/-- a test that is not so, a statement whose value is dropped: the slots as they are -/
theorem raw_no {F0 H0 F H : Hp} {σ : L2.St} {E : Ends} {b : Bool} (s : SOk K F0 H0 F H σ G) (h : EvB K tt G b) (hb : b = false) (k : ∀ F' H', Step F H F' H' → r E σ H') : tSeq (tIfS tt t tNext) r E σ H := h F0 H0 F H σ s _ fun F1 H1 t1 => by
  subst hb
  exact iteF (k F1 H1 t1)
theorem raw_drop {F0 H0 F H : Hp} {σ : L2.St} {E : Ends} (s : SOk K F0 H0 F H σ G) (h : EvD K te G d) (k : ∀ F' H', Step F H F' H' → r E σ H') : tSeq (tDrop te) r E σ H := h F0 H0 F H σ s _ fun _ F1 H1 t1 _ => k F1 H1 t1
/-- a heap without x -/
def del (H : Hp) (x : Addr) : Hp := fun b => if b = x then none else H b
theorem del_x {H : Hp} {x : Addr} : del H x x = none := if_pos rfl
theorem del_ne {H : Hp} {x b : Addr} (h : b ≠ x) : del H x b = H b := if_neg h
theorem del_same {H : Hp} {x : Addr} : Same (del H x) H := fun b o h => by
  by_cases q : b = x
  · subst q; rw [del_x] at h; cases h
  · rw [del_ne q] at h; exact h
/-- the start of an __init__ -/
theorem sokI {F H : Hp} {N : List Str} {x : Addr} {us : List V} {ds : List D} (s : Same F H) (hf : F x = none) (r : Reps K F ds us) : SOk K F (del H x) F H (L2.start N (.ref x :: us)) (.un :: ctx0 (N.length - 1) ds) where
  st := ⟨Same.refl _, del_same, s, fun _ n => .inl n⟩
  len := by
    simp [L2.start, ctx0, r.len]; omega
  sl := fun i c e => by
    cases i with
    | zero => exact ⟨some (.ref x), rfl, by cases e; trivial⟩
    | succ i =>
      have h := (sok0 (N := N.drop 1) s r).sl i c (by
        rw [List.length_drop]
        exact e)
      obtain ⟨o, h1, h2⟩ := h
      refine ⟨o, ?_, ?_⟩
      · unfold L2.start at h1 ⊢
        rw [List.length_drop] at h1
        rw [List.map_cons, List.cons_append, List.getElem?_cons_succ, show N.length - (V.ref x :: us).length = N.length - 1 - us.length by rw [List.length_cons]; omega]
        exact h1
      · cases c with
        | un => trivial
        | val d => exact h2
        | prv k es =>
          exfalso
          have e' : (ctx0 (N.length - 1) ds)[i]? = some (.prv k es) := e
          unfold ctx0 at e'
          rcases List.mem_append.mp (List.mem_of_getElem? e') with z | z
          · obtain ⟨d, _, q⟩ := List.mem_map.mp z
            cases q
          · have := (List.mem_replicate.mp z).2
            cases this
  ap := fun {k l} i j es gs a e1 _ _ _ => by
    exfalso
    cases i with
    | zero => cases e1
    | succ i =>
      have e' : (ctx0 (N.length - 1) ds)[i]? = some (.prv k es) := e1
      unfold ctx0 at e'
      rcases List.mem_append.mp (List.mem_of_getElem? e') with z | z
      · obtain ⟨d, _, q⟩ := List.mem_map.mp z
        cases q
      · have := (List.mem_replicate.mp z).2
        cases this
/-- the end of an __init__ -/
theorem init_end {F H F' H' : Hp} {x dx : Addr} {ws : List V} {Q : V → Hp → Prop} (t : Step F (del H x) F' H') (hf : F' x = none) (hx : H' x = some (.ins C dx (ns.zip ws))) (hl : ws.length = ns.length) (r : Reps K F' fs ws)
    (q : ∀ ws F' H', Same F F' → (∀ b o, b ≠ x → H b = some o → H' b = some o) → Same F' H' → (∀ a, F' a ≠ none → F a ≠ none ∨ NewAt H a) → F' x = none → H' x = some (.ins C dx (ns.zip ws)) → ws.length = ns.length → Reps K F' fs ws → Q .non H') : Q .non H' := by
  refine q ws F' H' t.ff (fun b o hb h => t.hh b o (by rw [del_ne hb]; exact h)) t.fh (fun a n => ?_) hf hx hl r
  rcases t.nw a n with z | z
  · exact .inl z
  · by_cases e : a = x
    · subst e; exact absurd hf n
    · unfold NewAt at z; rw [del_ne e] at z; exact .inr z
end
/-! ### a curve -/
def cvD (K : Fg) (c : Int × List Int) : D := .ins (He.ga K "Curve") ["_prime", "_polynomial"] [.int c.1, inD c.2]
/-- what is asked of a curve -/
structure CvOk (c : Int × List Int) : Prop where
  pm : Pm c.1
  nr : Nrm c.1 c.2
  ln : c.2.length = 2 ∨ c.2.length = 4 ∨ c.2.length = 6 ∨ c.2.length = 8
  mo : lastI c.2 = 1
  sq : pgcd c.1 c.2 (pder c.1 c.2) = [1]
def p_Curve___init__ (K : Fg) (ds : List D) (d : D) : Prop := ∃ p f, ds = [.int p, inD f] ∧ CvOk (p, f) ∧ d = cvD K (p, f)
def p_is_curve_poly (ds : List D) (d : D) : Prop := ∃ p f, ds = [.int p, inD f] ∧ CvOk (p, f) ∧ d = .bl true
def p_Curve_prime (K : Fg) (ds : List D) (d : D) : Prop := ∃ c, ds = [cvD K c] ∧ True ∧ d = .int c.1
def p_Curve_polynomial (K : Fg) (ds : List D) (d : D) : Prop := ∃ c, ds = [cvD K c] ∧ True ∧ d = inD c.2
def p_Curve_genus (K : Fg) (ds : List D) (d : D) : Prop := ∃ c, ds = [cvD K c] ∧ c.2.length ≤ 100 ∧ d = .int (((c.2.length : Int) - 2) / 2)
def p_Curve___eq__ (K : Fg) (ds : List D) (d : D) : Prop := ∃ c, ds = [cvD K c, cvD K c] ∧ True ∧ d = .bl true
def p_check_curve (K : Fg) (ds : List D) (d : D) : Prop := ∃ c, ds = [cvD K c] ∧ True ∧ d = .non
end Cw
set_option maxHeartbeats 4000000
namespace Cw
open Lean.Grind
/-! ### least forms -/
def leastT (p : Int) (t s b : List Int) : Tri :=
  (pscl p (pquo p t (pgcd p (pgcd p t s) b)) (pinv p (lastI (pquo p b (pgcd p (pgcd p t s) b)))),
   pscl p (pquo p s (pgcd p (pgcd p t s) b)) (pinv p (lastI (pquo p b (pgcd p (pgcd p t s) b)))),
   pscl p (pquo p b (pgcd p (pgcd p t s) b)) (pinv p (lastI (pquo p b (pgcd p (pgcd p t s) b)))))
structure LsOk (p : Int) (t : Tri) : Prop where
  n1 : Nrm p t.1
  n2 : Nrm p t.2.1
  n3 : Nrm p t.2.2
  ne : t.2.2 ≠ []
  mo : lastI t.2.2 = 1
  bz : ∃ u v w, ps p u * ps p t.1 + ps p v * ps p t.2.1 + ps p w * ps p t.2.2 = 1
section
variable {p : Int}
theorem pgcd_nil : pgcd p [] [] = [] := rfl
theorem gcd_two (hp : Pm p) {t s : List Int} (nt : Nrm p t) (ns : Nrm p s) : Nrm p (pgcd p t s) ∧ (∃ u v, ps p (pgcd p t s) = ps p u * ps p t + ps p v * ps p s) ∧ Dvd p (pgcd p t s) t ∧ Dvd p (pgcd p t s) s := by
  by_cases h : t ≠ [] ∨ s ≠ []
  · have g := gcd_ok hp nt ns h
    exact ⟨g.nr, g.bz, g.da, g.db⟩
  · have h1 : t = [] := Classical.byContradiction fun z => h (.inl z)
    have h2 : s = [] := Classical.byContradiction fun z => h (.inr z)
    subst h1 h2
    rw [pgcd_nil]
    refine ⟨nrm_nil, ⟨[], [], ?_⟩, ⟨[], nrm_nil, ?_⟩, ⟨[], nrm_nil, ?_⟩⟩ <;> rw [ps_nil] <;> grind
theorem Dvd.trans (hp : 0 < p) {a b c : List Int} (h : Dvd p a b) (k : Dvd p b c) : Dvd p a c := by
  obtain ⟨x, nx, hx⟩ := h
  obtain ⟨y, ny, hy⟩ := k
  refine ⟨pmul p y x, trim_nrm hp _, ?_⟩
  rw [hy, hx, ps_pmul]; grind
structure GtOk (p : Int) (t s b g : List Int) : Prop where
  nr : Nrm p g
  ne : g ≠ []
  mo : lastI g = 1
  d1 : Dvd p g t
  d2 : Dvd p g s
  d3 : Dvd p g b
  bz : ∃ u v w, ps p g = ps p u * ps p t + ps p v * ps p s + ps p w * ps p b
theorem gcd_three (hp : Pm p) {t s b : List Int} (nt : Nrm p t) (ns : Nrm p s) (nb : Nrm p b) (hb : b ≠ []) : GtOk p t s b (pgcd p (pgcd p t s) b) := by
  obtain ⟨h1, ⟨u, v, h2⟩, h3, h4⟩ := gcd_two hp nt ns
  have g := gcd_ok hp h1 nb (.inr hb)
  obtain ⟨x, y, hxy⟩ := g.bz
  refine ⟨g.nr, g.ne, g.mo, g.da.trans hp.pos h3, g.da.trans hp.pos h4, g.db, ⟨pmul p x u, pmul p x v, y, ?_⟩⟩
  rw [hxy, h2, ps_pmul, ps_pmul]; grind
theorem cst (n : Int) : ps p [n] = PS.C (ZM.mk p n) := PS.ext fun k => by
  cases k with
  | zero => rfl
  | succ k => rfl
theorem inv_C (hp : Pm p) {n : Int} (h : n % p ≠ 0) : (PS.C (ZM.mk p (pinv p n)) : PZ p) * PS.C (ZM.mk p n) = 1 := by
  obtain ⟨k1, k2, k3⟩ := pinv_mem hp h
  have hpg := hp.ge
  rw [← PS.C_mulC, ZM.mk_mul, show ZM.mk p (pinv p n * n) = 1 from ZM.sound (by rw [k3]; exact (Int.emod_eq_of_lt (by omega) (by omega)).symm)]
  rfl
/-- a factor k by which the parts were greater -/
theorem least_ok (hp : Pm p) {t s b : List Int} (nt : Nrm p t) (ns : Nrm p s) (nb : Nrm p b) (hb : b ≠ []) :
    LsOk p (leastT p t s b) ∧ ∃ k : List Int, ps p k ≠ 0 ∧ ps p t = ps p k * ps p (leastT p t s b).1 ∧ ps p s = ps p k * ps p (leastT p t s b).2.1 ∧ ps p b = ps p k * ps p (leastT p t s b).2.2 := by
  have g := gcd_three hp nt ns nb hb
  unfold leastT
  generalize pgcd p (pgcd p t s) b = c at g ⊢
  have e1 := (div_exact hp nt g.nr g.ne g.d1).1
  have e2 := (div_exact hp ns g.nr g.ne g.d2).1
  have e3 := (div_exact hp nb g.nr g.ne g.d3).1
  have q3 := quo_ne hp nb g.nr g.ne g.d3 hb
  have nq : Nrm p (pquo p b c) := pquo_nrm hp.pos
  have hm := nq.lmod q3
  have hC := inv_C hp hm
  generalize hI : pinv p (lastI (pquo p b c)) = I at hC ⊢
  obtain ⟨k1, k2, k3⟩ := pinv_mem hp hm
  rw [hI] at k1 k2 k3
  obtain ⟨u, v, w, hz⟩ := g.bz
  have n1 : Nrm p [I] := ⟨fun x hx => by simp at hx; omega, fun _ => by show I ≠ 0; omega⟩
  have eb : pscl p (pquo p b c) I = pmul p (pquo p b c) [I] := ps_inj hp.pos (trim_nrm hp.pos _) (trim_nrm hp.pos _) (by rw [ps_pscl, ps_pmul, cst]; grind)
  have pl := pmul_last hp nq n1 q3 (by simp)
  have hcn := ps_ne hp.pos g.nr g.ne
  refine ⟨⟨trim_nrm hp.pos _, trim_nrm hp.pos _, trim_nrm hp.pos _, ?_, ?_, ?_⟩, pscl p c (lastI (pquo p b c)), ?_, ?_, ?_, ?_⟩
  · show pscl p (pquo p b c) I ≠ []
    rw [eb]; exact pl.1
  · show lastI (pscl p (pquo p b c) I) = 1
    rw [eb, pl.2]
    show lastI (pquo p b c) * I % p = 1
    rw [Int.mul_comm, k3]
  · refine ⟨pscl p u (lastI (pquo p b c)), pscl p v (lastI (pquo p b c)), pscl p w (lastI (pquo p b c)), ?_⟩
    simp only [ps_pscl]
    have : ps p u * ps p (pquo p t c) + ps p v * ps p (pquo p s c) + ps p w * ps p (pquo p b c) = 1 := PS.cancel hp hcn (by
      rw [show (1 : PZ p) * ps p c = ps p c by grind]
      have : (ps p u * ps p (pquo p t c) + ps p v * ps p (pquo p s c) + ps p w * ps p (pquo p b c)) * ps p c = ps p u * (ps p (pquo p t c) * ps p c) + ps p v * (ps p (pquo p s c) * ps p c) + ps p w * (ps p (pquo p b c) * ps p c) := by grind
      rw [this, ← e1, ← e2, ← e3, hz])
    grind
  · rw [ps_pscl]
    intro z
    apply hcn
    have : ps p c = PS.C (ZM.mk p I) * (PS.C (ZM.mk p (lastI (pquo p b c))) * ps p c) := by grind
    rw [this, z]; grind
  · simp only [ps_pscl]; rw [e1]; grind
  · simp only [ps_pscl]; rw [e2]; grind
  · simp only [ps_pscl]; rw [e3]; grind
theorem dvd_monic (hp : Pm p) {a b x y : List Int} (na : Nrm p a) (nb : Nrm p b) (ha : a ≠ []) (hb : b ≠ []) (ma : lastI a = 1) (mb : lastI b = 1) (h1 : ps p a = ps p x * ps p b) (h2 : ps p b = ps p y * ps p a) : a = b := by
  obtain ⟨x', nx, hx⟩ := nrmz hp.pos x
  obtain ⟨y', ny, hy⟩ := nrmz hp.pos y
  rw [← hx] at h1
  rw [← hy] at h2
  have xe : x' ≠ [] := by intro z; rw [z, ps_nil] at h1; exact ps_ne hp.pos na ha (by rw [h1]; grind)
  have ye : y' ≠ [] := by intro z; rw [z, ps_nil] at h2; exact ps_ne hp.pos nb hb (by rw [h2]; grind)
  have e1 : a = pmul p x' b := ps_inj hp.pos na (trim_nrm hp.pos _) (by rw [h1, ps_pmul])
  have e2 : b = pmul p y' a := ps_inj hp.pos nb (trim_nrm hp.pos _) (by rw [h2, ps_pmul])
  have l1 := pmul_len3 hp nx nb xe hb
  have l2 := pmul_len3 hp ny na ye ha
  rw [← e1] at l1
  rw [← e2] at l2
  have := List.length_pos_iff.mpr xe
  have := List.length_pos_iff.mpr ye
  have := List.length_pos_iff.mpr ha
  have := List.length_pos_iff.mpr hb
  have hx1 : x'.length = 1 := by omega
  obtain ⟨c, hc⟩ : ∃ c, x' = [c] := by
    match x', hx1 with
    | [c], _ => exact ⟨c, rfl⟩
  have pl := (pmul_last hp nx nb xe hb).2
  rw [← e1, ma, mb, hc] at pl
  have hcb := nx.1 c (by rw [hc]; simp)
  have : c = 1 := by
    have : lastI [c] * 1 % p = c := by
      show c * 1 % p = c
      rw [Int.mul_one]
      exact Int.emod_eq_of_lt hcb.1 hcb.2
    omega
  rw [hc, this, ps_one] at h1
  exact ps_inj hp.pos na nb (by rw [h1]; grind)
theorem least_uniq (hp : Pm p) {T U : Tri} (hT : LsOk p T) (hU : LsOk p U) (h1 : ps p T.1 * ps p U.2.2 = ps p U.1 * ps p T.2.2) (h2 : ps p T.2.1 * ps p U.2.2 = ps p U.2.1 * ps p T.2.2) : T = U := by
  obtain ⟨t, s, b⟩ := T
  obtain ⟨t', s', b'⟩ := U
  obtain ⟨u, v, w, hz⟩ := hT.bz
  obtain ⟨u', v', w', hz'⟩ := hU.bz
  simp only at h1 h2 hz hz'
  have eb : b = b' := by
    refine dvd_monic hp hT.n3 hU.n3 hT.ne hU.ne hT.mo hU.mo (x := padd p (padd p (pmul p u' t) (pmul p v' s)) (pmul p w' b)) (y := padd p (padd p (pmul p u t') (pmul p v s')) (pmul p w b')) ?_ ?_
    · simp only [ps_padd, ps_pmul]
      have : ps p b = ps p b * (ps p u' * ps p t' + ps p v' * ps p s' + ps p w' * ps p b') := by rw [hz']; grind
      rw [this]; grind
    · simp only [ps_padd, ps_pmul]
      have : ps p b' = ps p b' * (ps p u * ps p t + ps p v * ps p s + ps p w * ps p b) := by rw [hz]; grind
      rw [this]; grind
  subst eb
  have hbn := ps_ne hp.pos hT.n3 hT.ne
  have e1 := ps_inj hp.pos hT.n1 hU.n1 (PS.cancel hp hbn h1)
  have e2 := ps_inj hp.pos hT.n2 hU.n2 (PS.cancel hp hbn h2)
  simp only at e1 e2
  rw [e1, e2]
/-- the least form of parts, as told by any fraction equal to it -/
theorem least_eq (hp : Pm p) {t s b : List Int} (nt : Nrm p t) (ns : Nrm p s) (nb : Nrm p b) (hb : b ≠ []) {U : Tri} (hU : LsOk p U) (h1 : ps p t * ps p U.2.2 = ps p U.1 * ps p b) (h2 : ps p s * ps p U.2.2 = ps p U.2.1 * ps p b) : leastT p t s b = U := by
  obtain ⟨ok, k, hk, k1, k2, k3⟩ := least_ok hp nt ns nb hb
  refine least_uniq hp ok hU ?_ ?_
  · refine PS.cancel hp hk ?_
    rw [k1, k3] at h1
    grind
  · refine PS.cancel hp hk ?_
    rw [k2, k3] at h2
    grind
/-- cross products with the least form -/
theorem least_cross (hp : Pm p) {t s b : List Int} (nt : Nrm p t) (ns : Nrm p s) (nb : Nrm p b) (hb : b ≠ []) : ps p (leastT p t s b).1 * ps p b = ps p t * ps p (leastT p t s b).2.2 ∧ ps p (leastT p t s b).2.1 * ps p b = ps p s * ps p (leastT p t s b).2.2 := by
  obtain ⟨ok, k, hk, k1, k2, k3⟩ := least_ok hp nt ns nb hb
  rw [k1, k2, k3]
  constructor <;> grind
theorem least_len {t s b : List Int} : (leastT p t s b).1.length ≤ t.length + 1 ∧ (leastT p t s b).2.1.length ≤ s.length + 1 ∧ (leastT p t s b).2.2.length ≤ b.length + 1 := by
  unfold leastT
  refine ⟨?_, ?_, ?_⟩ <;> refine Nat.le_trans pscl_len (Nat.le_trans pquo_len (by omega))
end
/-! ### functions -/
def fnD (K : Fg) (c : Int × List Int) (t : Tri) : D := .ins (He.ga K "Function") ["_curve", "_parts"] [cvD K c, lsD inD [t.1, t.2.1, t.2.2]]
abbrev Sz (n : Nat) (t : Tri) : Prop := t.1.length ≤ n ∧ t.2.1.length ≤ n ∧ t.2.2.length ≤ n
end Cw
set_option maxHeartbeats 4000000
namespace Cw
open PySem PySem.Spec PyProof.Rows L2
open C8 (Cal Met Mak)
/-! ### the own == of a class -/
def Rown (K : Fg) (P : List D → D → Prop) : Addr → Addr → Hp → Prop := fun a b H => ∃ d, P [d, d] (.bl true) ∧ Rep K H d (.ref a) ∧ Rep K H d (.ref b)
theorem opOwn {X : Cx} {K : Fg} {j k : Nat} {C : Addr} {P : List D → D → Prop} (c : Met X.prog X.w X.K X.mg X.base k C "__eq__" (spD K P) []) (hr : Room j X.A) (hk : k ≤ j) (h : X.K = K := by rfl) : OpR X (compareOp .Eq) (rEqG (DIns C (Rown K P))) := by
  cases h
  obtain ⟨f, fd, ps, ds, hc, hm, F, b, d⟩ := c.ex
  cases d
  have F' : FnOk X.prog X.w X.K X.mg X.base C8.CX0 k f fd ps (spEq (Rown X.K P)) := F.imp fun vs H Q E q => by
    obtain ⟨a, b, rfl, ⟨d, p, r1, r2⟩, q⟩ := q
    refine ⟨H, [d, d], .bl true, Same.refl _, Reps.cons r1 (Reps.one r2), p, fun v F' H' t r => ?_⟩
    cases r
    exact q H' t.hh
  exact op_eqG (rcG_ins (E := C8.E0) F' hm.at_ hm.fn b C8.pass0) (hr.mono hk)
section
variable {K : Fg} {G : Ctx} {te ta tb tc tl ts : TE} {d e : D} {ds : List D} {C : Addr} {ns : List Str}
theorem ev_own {P : List D → D → Prop} (ha : EvD K ta G (.ins C ns ds)) (hb : EvD K tb G (.ins C ns ds)) (p : P [.ins C ns ds, .ins C ns ds] (.bl true)) : EvD K (tOp (rEqG (DIns C (Rown K P))) ta tb) G (.bl true) := fun F0 H0 F H σ s Q q =>
  ha F0 H0 F H σ s _ fun v F1 H1 t1 r1 => hb F0 H0 F1 H1 σ (s.step t1) _ fun u F2 H2 t2 r2 => by
    have r1' := Rep.mono (t2.ff.trans t2.fh) _ _ r1
    have r2' := Rep.mono t2.fh _ _ r2
    obtain ⟨a, da, us, rfl, a1, a2, a3⟩ := id r1'
    obtain ⟨b, db, ws, rfl, b1, b2, b3⟩ := id r2'
    refine ⟨⟨a, b, da, db, _, _, rfl, rfl, a1, b1, _, p, r1', r2'⟩, fun H' x => q _ F2 H' ((t1.trans t2).trans ⟨Same.refl _, x, t2.fh.trans x, fun _ n => .inl n⟩) rfl⟩
end
/-! ### xs[f::p] -/
def pickA {α : Type} (xs : List α) (f p : Int) : List α := (sliceRange (sliceBounds (some f) none (some p) xs.length).1 (sliceBounds (some f) none (some p) xs.length).2.1 (sliceBounds (some f) none (some p) xs.length).2.2).filterMap (xs[·]?)
def tStepL (K : Fg) (te tl ts : TE) : TE := fun σ H Q => te σ H fun x H1 => tPart tl σ H1 fun l H2 => tPart ts σ H2 fun c H3 => ∃ a xs f p, x = .ref a ∧ l = some f ∧ c = some p ∧ 0 < p ∧ SqL K H3 a xs ∧ (pickA xs f p).length ≤ xs.length ∧ ∀ q, H3 q = none → Q (.ref q) (upd H3 q (.lst (pickA xs f p)))
theorem vals_fm {xs : List V} {us : List Value} (r : Vals xs us) : ∀ is : List Nat, Vals (is.filterMap (xs[·]?)) (is.filterMap (us[·]?))
  | [] => .nil
  | i :: is => by
    rw [List.filterMap_cons, List.filterMap_cons]
    by_cases h : i < xs.length
    · obtain ⟨u, hu, ru⟩ := r.get (List.getElem?_eq_getElem h)
      rw [List.getElem?_eq_getElem h, hu]
      exact .cons ru (vals_fm r is)
    · rw [List.getElem?_eq_none (by omega), List.getElem?_eq_none (by rw [← r.length]; omega)]
      exact vals_fm r is
theorem pe_stepL {X : Cx} {e lo st : Expr} {te tl ts : TE} {p3 pos : Pos} (K : Fg) (he : PE X e te) (hl : PE X lo tl) (hs : PE X st ts) (h : X.K = K := by rfl) : PE X (.Subscript e (.Slice (some lo) none (some st) p3) pos) (tStepL K te tl ts) := by
  cases h
  refine ⟨fun pins s σ H Q I h => ?_⟩
  refine Subscript_ (thn (he.run pins s σ H _ I h) fun v s1 ⟨x, H1, I1, r1, q1⟩ => ?_)
  refine wpAny_Slice (thn ((po_some hl).run pins s1 σ H1 _ I1 q1) fun vl s2 ⟨l, H2, I2, pl, q2⟩ => ?_)
  refine thn (po_none.run pins s2 σ H2 (fun o H3 => o = none ∧ H3 = H2) I2 ⟨rfl, rfl⟩) fun vu s3 ⟨u, H3, I3, pu, eu, e3⟩ => ?_
  subst eu e3
  refine thn ((po_some hs).run pins s3 σ H3 _ I3 q2) fun vs s4 ⟨o, H4, I4, ps, q4⟩ => ?_
  obtain ⟨a, xs, f, p, ex, el, eo, hp, hx, hlen2, q⟩ := q4
  subst ex el eo
  cases r1
  have I5 : Inv X pins σ H4 { s4 with heap := s4.heap.push { cls := .type "slice", data := .fields #[vl, vu, vs] } } := I4.kept (t' := s4.toks) fun b ob q => Heap.get?_push_of_some _ q
  obtain ⟨its, r, ht, hz⟩ := I5.list hx
  have hlen := r.length
  show wpAny (model X.prog X.w) X.A (subscriptTail e (.Slice (some lo) none (some st) p3) (.ref a) (.ref s4.heap.objs.size)) (EP X pins σ Q) X.xe { s4 with heap := s4.heap.push { cls := .type "slice", data := .fields #[vl, vu, vs] } }
  refine tail_any (ops := [.ref a, .ref s4.heap.objs.size]) ht.isList.typeIs (PySem.slot_list_getitem.lookup) ?_ (by with_unfolding_all rfl)
  refine wpAny_getItem_list_slice ht.isList (Heap.IsSliceOf.new _ vl vu vs) pl pu ps (by intro z; cases z; omega) ?_ (by rw [List.size_toArray]; omega)
  refine ⟨.ref _, _, I5.laid (t' := s4.toks) (o := .lst (pickA xs f p)) (fun b ob q => Heap.get?_push_of_some _ q) (Nat.le_refl _) ?_, rfl, q _ (I5.hok.fresh (Nat.le_refl _))⟩
  refine ⟨Nat.le_trans hlen2 hz, _, 0, ?_, Heap.get?_push_size _ rfl⟩
  have h1 : its.toArray.size = xs.length := by rw [List.size_toArray]; exact hlen.symm
  rw [h1]
  have := vals_fm r (sliceRange (sliceBounds (some f) none (some p) xs.length).1 (sliceBounds (some f) none (some p) xs.length).2.1 (sliceBounds (some f) none (some p) xs.length).2.2)
  simpa [pickA] using this
section
variable {K : Fg} {G : Ctx} {te ta tb tc tl ts : TE} {d e : D} {ds : List D}
theorem Reps.fm {F : Hp} {ds : List D} {vs : List V} (r : Reps K F ds vs) : ∀ is : List Nat, Reps K F (is.filterMap (ds[·]?)) (is.filterMap (vs[·]?))
  | [] => rfl
  | i :: is => by
    rw [List.filterMap_cons, List.filterMap_cons]
    by_cases h : i < ds.length
    · obtain ⟨u, hu, ru⟩ := r.get (List.getElem?_eq_getElem h)
      rw [List.getElem?_eq_getElem h, hu]
      exact Reps.cons ru (Reps.fm r is)
    · rw [List.getElem?_eq_none (by omega), List.getElem?_eq_none (by rw [r.len]; omega)]
      exact Reps.fm r is
theorem pickA_len {α : Type} {xs : List α} {f p : Int} (hp : 0 < p) : (pickA xs f p).length ≤ xs.length := by
  refine Nat.le_trans (List.length_filterMap_le ..) (sliceRange_length_le _ _ _ _ (fun _ => ?_) fun h => ?_)
  · simp only [sliceBounds, Option.getD_some, hp, gt_iff_lt, if_true]
    omega
  · simp only [sliceBounds, Option.getD_some] at h
    omega
theorem pickA_map {α β : Type} (g : α → β) (xs : List α) (f p : Int) : pickA (xs.map g) f p = (pickA xs f p).map g := by
  unfold pickA
  rw [List.length_map, List.map_filterMap]
  congr 1
  funext i
  rw [List.getElem?_map]
theorem en_step {xs : List D} {f p : Int} (hp : 0 < p) (h : EvD K te G (.lst xs)) (h1 : EvD K tl G (.int f)) (h2 : EvD K ts G (.int p)) : EvN K (tStepL K te tl ts) G (pickA xs f p) := fun F0 H0 F H σ s Q q =>
  h F0 H0 F H σ s _ fun v F1 H1 t1 r1 => h1 F0 H0 F1 H1 σ (s.step t1) _ fun x F2 H2 t2 r2 => ⟨f, r2, h2 F0 H0 F2 H2 σ ((s.step t1).step t2) _ fun y F3 H3 t3 r3 => ⟨p, r3, by
    obtain ⟨a, us, rfl, h3, h4⟩ := r1
    have t := t2.trans t3
    have h5 := Reps.mono t.ff _ _ h4
    refine ⟨a, us, f, p, rfl, rfl, rfl, hp, .inl (.inl (t.hh _ _ (t1.fh _ _ h3))), pickA_len hp, fun l hl => q l _ F3 _ ((t1.trans t).trans (Step.newP t3.fh hl)) ((t1.trans t).hh.free hl) (t3.fh.free hl) upd_same ?_⟩
    unfold pickA
    rw [h5.len]
    exact h5.fm _⟩⟩
theorem en_stepT {α : Type} {enc : α → D} {xs : List α} {f p : Int} (hp : 0 < p) (h : EvD K te G (lsD enc xs)) (h1 : EvD K tl G (.int f)) (h2 : EvD K ts G (.int p)) : EvN K (tStepL K te tl ts) G ((pickA xs f p).map enc) := by
  rw [← pickA_map]
  exact en_step hp h h1 h2
/-- what stands in it -/
theorem range_fm {α : Type} (xs : List α) (f p n : Nat) (h : ∀ k, k < n → f + p * k < xs.length) : ∀ k, ((List.range n).filterMap fun i => xs[f + p * i]?)[k]? = if k < n then xs[f + p * k]? else none := by
  induction n with
  | zero => intro k; simp
  | succ n ih =>
    intro k
    have hn := h n (Nat.lt_succ_self n)
    have ih' := ih fun k hk => h k (by omega)
    have hl : ((List.range n).filterMap fun i => xs[f + p * i]?).length = n := by
      have a : ((List.range n).filterMap fun i => xs[f + p * i]?)[n]? = none := by rw [ih', if_neg (by omega)]
      have a' := List.getElem?_eq_none_iff.mp a
      by_cases z : n = 0
      · subst z; rfl
      · have b : ((List.range n).filterMap fun i => xs[f + p * i]?)[n - 1]? ≠ none := by
          rw [ih', if_pos (by omega), List.getElem?_eq_getElem (h (n - 1) (by omega))]
          exact fun z => nomatch z
        have : ¬ ((List.range n).filterMap fun i => xs[f + p * i]?).length ≤ n - 1 := fun q => b (List.getElem?_eq_none q)
        omega
    rw [List.range_succ, List.filterMap_append]
    have e1 : ([n].filterMap fun i => xs[f + p * i]?) = [xs[f + p * n]] := by
      rw [List.filterMap_cons, List.getElem?_eq_getElem hn]; rfl
    rw [e1]
    by_cases q : k < n
    · rw [List.getElem?_append_left (by omega), ih', if_pos q, if_pos (by omega)]
    · by_cases z : k = n
      · subst z
        rw [List.getElem?_append_right (by omega), hl, if_pos (by omega), List.getElem?_eq_getElem hn, Nat.sub_self]
        rfl
      · rw [if_neg (by omega), List.getElem?_eq_none]
        rw [List.length_append, hl]
        show n + 1 ≤ k
        omega
theorem pickA_get {α : Type} {xs : List α} {f p : Nat} (hp : 0 < p) (k : Nat) : (pickA xs (f : Int) (p : Int))[k]? = xs[f + p * k]? := by
  have hp' : (p : Int) > 0 := by omega
  have key : ∃ n : Nat, pickA xs (f : Int) (p : Int) = ((List.range n).filterMap fun i => xs[f + p * i]?) ∧ (∀ k, k < n ↔ f + p * k < xs.length) := by
    by_cases hf : f < xs.length
    · refine ⟨((xs.length - f + p - 1) / p), ?_, fun k => ?_⟩
      · unfold pickA
        simp only [sliceBounds, Option.getD_some, hp', if_true, show ¬ (f : Int) < 0 by omega, if_false]
        rw [show max (0 : Int) (min (f : Int) (xs.length : Int)) = (f : Int) by omega]
        unfold sliceRange
        simp only [hp', if_true, show (f : Int) < (xs.length : Int) by omega]
        rw [show ((xs.length : Int) - f + p - 1) = ((xs.length - f + p - 1 : Nat) : Int) by omega, ← Int.natCast_ediv, Int.toNat_natCast, List.filterMap_map]
        congr 1
      · rw [← Nat.succ_le_iff, Nat.le_div_iff_mul_le hp, Nat.succ_mul, Nat.mul_comm k p]
        omega
    · refine ⟨0, ?_, fun k => by omega⟩
      unfold pickA
      simp only [sliceBounds, Option.getD_some, hp', if_true, show ¬ (f : Int) < 0 by omega, if_false]
      unfold sliceRange
      simp only [hp', if_true]
      rw [if_neg (by omega)]
      rfl
  obtain ⟨n, e, h⟩ := key
  rw [e, range_fm xs f p n fun k hk => (h k).mp hk]
  split
  · rfl
  · rename_i z
    have : ¬ f + p * k < xs.length := fun y => z ((h k).mpr y)
    exact (List.getElem?_eq_none (by omega)).symm
theorem pick_cf {l : List Int} {f p : Nat} (hp : 0 < p) (k : Nat) : cf (pickA l (f : Int) (p : Int)) k = cf l (f + p * k) := by
  unfold cf
  first
    | rw [pickA_get hp]
    | simp [List.getD_eq_getElem?_getD, pickA_get hp]
/-! ### unpacking a list -/
theorem tg_unl {gs : TGs} {n : Nat} {G1 : Ctx} {is : List Nat} (k : TgDs K gs ds G G1 is) (hn : ds.length = n) : TgD K (gUnl K n gs) (.lst ds) G G1 is := fun F0 H0 F H σ x s r Q q => by
  obtain ⟨a, vs, rfl, h1, h2⟩ := r
  exact ⟨a, vs, rfl, .inl (.inl (s.fh _ _ h1)), by rw [h2.len]; exact hn, k F0 H0 F H σ vs s h2 Q q⟩
end
theorem pgl {X : Cx} (K : Fg) {es : List Expr} {k : Nat} {t : TGs} {n : Nat} {pos : Pos} (hc : X.calm = true) (h : PGs X es t)
    (hn : (assignEach es X.env).length = n := by rfl) (hst : (assignEach es X.env).findIdx? (·.1) = none := by rfl) (hk : X.K = K := by rfl) : PG X (.Tuple es k pos) (gUnl K n t) := by cases hk; exact pg_unl hc h hn hst
end Cw
set_option maxHeartbeats 4000000
namespace Cw
open PySem PySem.Spec PyProof.Rows L2
/-! ### what functions.py, parts.py, slopes.py compute -/
abbrev Cur : Type := Int × List Int
def fPlus (c : Cur) (T U : Tri) : Tri := leastT c.1 (padd c.1 (pmul c.1 T.1 U.2.2) (pmul c.1 U.1 T.2.2)) (padd c.1 (pmul c.1 T.2.1 U.2.2) (pmul c.1 U.2.1 T.2.2)) (pmul c.1 T.2.2 U.2.2)
def fOpp (c : Cur) (T : Tri) : Tri := leastT c.1 (pneg c.1 T.1) (pneg c.1 T.2.1) T.2.2
def fMinus (c : Cur) (T U : Tri) : Tri := fPlus c T (fOpp c U)
def fTimes (c : Cur) (T U : Tri) : Tri := leastT c.1 (padd c.1 (pmul c.1 T.1 U.1) (pmul c.1 (pmul c.1 T.2.1 U.2.1) c.2)) (padd c.1 (pmul c.1 T.1 U.2.1) (pmul c.1 T.2.1 U.1)) (pmul c.1 T.2.2 U.2.2)
def fNorm (c : Cur) (T : Tri) : List Int := psub c.1 (pmul c.1 T.1 T.1) (pmul c.1 (pmul c.1 T.2.1 T.2.1) c.2)
def rpC (s : Tri × Tri × Int) : Bool := decide (0 < s.2.2)
def rpS (c : Cur) (s : Tri × Tri × Int) : Tri × Tri × Int := (if s.2.2 % 2 = 1 then fTimes c s.1 s.2.1 else s.1, fTimes c s.2.1 s.2.1, s.2.2 / 2)
def fOne (c : Cur) : Tri := leastT c.1 [1] [] [1]
def fRaised (c : Cur) (T : Tri) (n : Int) : Tri := (whileN rpC (rpS c) n.toNat (fOne c, T, n)).1
def fSlope (c : Cur) (T : Tri) : Tri :=
  leastT c.1
    (pmul c.1 (psub c.1 (pmul c.1 (pder c.1 T.1) T.2.2) (pmul c.1 T.1 (pder c.1 T.2.2))) (pscl c.1 c.2 2))
    (padd c.1 (pmul c.1 (psub c.1 (pmul c.1 (pder c.1 T.2.1) T.2.2) (pmul c.1 T.2.1 (pder c.1 T.2.2))) (pscl c.1 c.2 2)) (pmul c.1 (pmul c.1 T.2.1 (pder c.1 c.2)) T.2.2))
    (pmul c.1 (pmul c.1 T.2.2 T.2.2) (pscl c.1 c.2 2))
def fLow (c : Cur) (T : Tri) : List Int := pmul c.1 T.1 (ppow c.1 T.2.2 (c.1 - 1).toNat)
def fHigh (c : Cur) (T : Tri) : List Int := pmul c.1 (pmul c.1 T.2.1 (ppow c.1 T.2.2 (c.1 - 1).toNat)) (ppow c.1 c.2 ((c.1 + 1) / 2).toNat)
def pEvery (p : Int) (l : List Int) (i : Int) : List Int := trim p (pickA l i p)
def fPart (c : Cur) (T : Tri) (i : Int) : Tri := leastT c.1 (pmul c.1 (pEvery c.1 (fLow c T) i) c.2) (pEvery c.1 (fHigh c T) i) (pmul c.1 T.2.2 c.2)
def fParts (c : Cur) (T : Tri) : List Tri := (rangeI 0 c.1.toNat).map (fPart c T)
def fLast (c : Cur) (T : Tri) : Tri := fPart c T (c.1 - 1)
def stF (p : Int) (l : List Int) : List Int := (enumI l).foldl (fun s q => s.set (p * q.1).toNat q.2) (List.replicate (p * ((l.length : Int) - 1) + 1).toNat 0)
def pStretch (p : Int) (l : List Int) : List Int := if l = [] then [] else stF p l
def srF (p : Int) (l : List Int) : List Int := (enumI l).foldl (fun s q => if q.2 = 0 then s else s.set (q.1 + 1).toNat (q.2 * pinv p (q.1 % p + 1))) (List.replicate ((l.length : Int) + 1).toNat 0)
def pSrc (p : Int) (l : List Int) : List Int := trim p (srF p l)
def fSrc (c : Cur) (T : Tri) : Tri := leastT c.1 (pmul c.1 (pSrc c.1 (fLow c T)) (ppow c.1 c.2 ((c.1 + 1) / 2).toNat)) (pSrc c.1 (fHigh c T)) (pmul c.1 (pStretch c.1 T.2.2) (ppow c.1 c.2 ((c.1 + 1) / 2).toNat))
def nought (T : Tri) : Prop := T.1 = [] ∧ T.2.1 = []
instance (T : Tri) : Decidable (nought T) := inferInstanceAs (Decidable (_ ∧ _))
/-! ### sizes, least forms -/
structure FnIn (c : Cur) (T : Tri) (n : Nat) : Prop where
  ls : LsOk c.1 T
  sz : Sz n T
section
variable {c : Cur} {T U : Tri} {n m : Nat} {p : Int}
theorem FnIn.mono (h : FnIn c T n) (k : n ≤ m) : FnIn c T m := ⟨h.ls, Nat.le_trans h.sz.1 k, Nat.le_trans h.sz.2.1 k, Nat.le_trans h.sz.2.2 k⟩
theorem CvOk.pos (h : CvOk c) : 0 < c.1 := h.pm.pos
theorem CvOk.len (h : CvOk c) : c.2.length ≤ 8 := by rcases h.ln with h | h | h | h <;> omega
theorem CvOk.ne (h : CvOk c) : c.2 ≠ [] := fun z => by
  have := h.ln
  rw [z] at this
  simp at this
theorem pmul_ne (hp : Pm p) {a b : List Int} (na : Nrm p a) (nb : Nrm p b) (ha : a ≠ []) (hb : b ≠ []) : pmul p a b ≠ [] := (pmul_last hp na nb ha hb).1
theorem least_in (hc : CvOk c) {t s b : List Int} (nt : Nrm c.1 t) (ns : Nrm c.1 s) (nb : Nrm c.1 b) (hb : b ≠ []) (h1 : t.length ≤ n) (h2 : s.length ≤ n) (h3 : b.length ≤ n) : FnIn c (leastT c.1 t s b) (n + 1) := by
  have l := least_len (p := c.1) (t := t) (s := s) (b := b)
  exact ⟨(least_ok hc.pm nt ns nb hb).1, by omega, by omega, by omega⟩
theorem ppow_nrm (hp : 1 < p) {a : List Int} : ∀ n : Nat, Nrm p (ppow p a n)
  | 0 => ⟨fun x hx => by simp [ppow] at hx; omega, fun _ => by show (1 : Int) ≠ 0; decide⟩
  | n + 1 => trim_nrm (by omega) _
theorem ps_ppow {a : List Int} : ∀ n : Nat, ps p (ppow p a n) = ps p a ^ n
  | 0 => by
    show ps p [1] = _
    rw [ps_one]; grind
  | n + 1 => by
    show ps p (pmul p (ppow p a n) a) = _
    rw [ps_pmul, ps_ppow n]; grind
theorem ppow_ne (hp : Pm p) {a : List Int} (na : Nrm p a) (ha : a ≠ []) : ∀ n : Nat, ppow p a n ≠ []
  | 0 => by simp [ppow]
  | n + 1 => by
    have := hp.ge
    exact pmul_ne hp (ppow_nrm (by omega) n) na (ppow_ne hp na ha n) ha
theorem two_nrm (hp : Pm p) : Nrm p [2] := by
  have := hp.ge
  exact ⟨fun x hx => by simp at hx; omega, fun _ => by show (2 : Int) ≠ 0; decide⟩
theorem one_nrm (hp : Pm p) : Nrm p [1] := by
  have := hp.ge
  exact ⟨fun x hx => by simp at hx; omega, fun _ => by show (1 : Int) ≠ 0; decide⟩
theorem twice_ne (hp : Pm p) {f : List Int} (nf : Nrm p f) (hf : f ≠ []) : pscl p f 2 ≠ [] := by
  have e : pscl p f 2 = pmul p f [2] := ps_inj hp.pos (trim_nrm hp.pos _) (trim_nrm hp.pos _) (by rw [ps_pscl, ps_pmul, cst]; grind)
  rw [e]
  exact pmul_ne hp nf (two_nrm hp) hf (by simp)
theorem fPlus_in (hc : CvOk c) (hT : FnIn c T n) (hU : FnIn c U m) : FnIn c (fPlus c T U) (n + m + 1) := by
  have a1 := hT.sz
  have a2 := hU.sz
  have l1 := pmul_len (p := c.1) (a := T.1) (b := U.2.2)
  have l2 := pmul_len (p := c.1) (a := U.1) (b := T.2.2)
  have l3 := pmul_len (p := c.1) (a := T.2.1) (b := U.2.2)
  have l4 := pmul_len (p := c.1) (a := U.2.1) (b := T.2.2)
  have l5 := pmul_len (p := c.1) (a := T.2.2) (b := U.2.2)
  exact least_in hc (trim_nrm hc.pos _) (trim_nrm hc.pos _) (trim_nrm hc.pos _) (pmul_ne hc.pm hT.ls.n3 hU.ls.n3 hT.ls.ne hU.ls.ne) (Nat.le_trans padd_len (by omega)) (Nat.le_trans padd_len (by omega)) (by omega)
theorem fOpp_in (hc : CvOk c) (hT : FnIn c T n) : FnIn c (fOpp c T) (n + 1) := by
  have a1 := hT.sz
  exact least_in hc (trim_nrm hc.pos _) (trim_nrm hc.pos _) hT.ls.n3 hT.ls.ne (Nat.le_trans pneg_len (by omega)) (Nat.le_trans pneg_len (by omega)) (by omega)
theorem fMinus_in (hc : CvOk c) (hT : FnIn c T n) (hU : FnIn c U m) : FnIn c (fMinus c T U) (n + (m + 1) + 1) := fPlus_in hc hT (fOpp_in hc hU)
theorem fTimes_in (hc : CvOk c) (hT : FnIn c T n) (hU : FnIn c U m) : FnIn c (fTimes c T U) (n + m + 9) := by
  have a1 := hT.sz
  have a2 := hU.sz
  have a3 := hc.len
  have l1 := pmul_len (p := c.1) (a := T.1) (b := U.1)
  have l2 := pmul_len (p := c.1) (a := T.2.1) (b := U.2.1)
  have l3 := pmul_len (p := c.1) (a := pmul c.1 T.2.1 U.2.1) (b := c.2)
  have l4 := pmul_len (p := c.1) (a := T.1) (b := U.2.1)
  have l6 := pmul_len (p := c.1) (a := T.2.1) (b := U.1)
  have l5 := pmul_len (p := c.1) (a := T.2.2) (b := U.2.2)
  exact least_in hc (trim_nrm hc.pos _) (trim_nrm hc.pos _) (trim_nrm hc.pos _) (pmul_ne hc.pm hT.ls.n3 hU.ls.n3 hT.ls.ne hU.ls.ne) (Nat.le_trans padd_len (by omega)) (Nat.le_trans padd_len (by omega)) (by omega)
theorem fOne_in (hc : CvOk c) : FnIn c (fOne c) 2 := by
  have := hc.pm.ge
  have n1 : Nrm c.1 [1] := ⟨fun x hx => by simp at hx; omega, fun _ => by show (1 : Int) ≠ 0; decide⟩
  exact least_in hc n1 nrm_nil n1 (by simp) (Nat.le_refl _) (Nat.zero_le _) (Nat.le_refl _)
theorem fSlope_in (hc : CvOk c) (hT : FnIn c T n) : FnIn c (fSlope c T) (2 * n + 17) := by
  have a1 := hT.sz
  have a3 := hc.len
  have d1 := pder_len (p := c.1) (a := T.1)
  have d2 := pder_len (p := c.1) (a := T.2.1)
  have d3 := pder_len (p := c.1) (a := T.2.2)
  have d4 := pder_len (p := c.1) (a := c.2)
  have tw := pscl_len (p := c.1) (a := c.2) (n := 2)
  have l1 := pmul_len (p := c.1) (a := pder c.1 T.1) (b := T.2.2)
  have l2 := pmul_len (p := c.1) (a := T.1) (b := pder c.1 T.2.2)
  have l3 := pmul_len (p := c.1) (a := pder c.1 T.2.1) (b := T.2.2)
  have l4 := pmul_len (p := c.1) (a := T.2.1) (b := pder c.1 T.2.2)
  have s1 := psub_len (p := c.1) (a := pmul c.1 (pder c.1 T.1) T.2.2) (b := pmul c.1 T.1 (pder c.1 T.2.2))
  have s2 := psub_len (p := c.1) (a := pmul c.1 (pder c.1 T.2.1) T.2.2) (b := pmul c.1 T.2.1 (pder c.1 T.2.2))
  have l5 := pmul_len (p := c.1) (a := T.2.1) (b := pder c.1 c.2)
  have l6 := pmul_len (p := c.1) (a := pmul c.1 T.2.1 (pder c.1 c.2)) (b := T.2.2)
  have l7 := pmul_len (p := c.1) (a := T.2.2) (b := T.2.2)
  refine least_in hc (trim_nrm hc.pos _) (trim_nrm hc.pos _) (trim_nrm hc.pos _) (pmul_ne hc.pm (trim_nrm hc.pos _) (trim_nrm hc.pos _) (pmul_ne hc.pm hT.ls.n3 hT.ls.n3 hT.ls.ne hT.ls.ne) (twice_ne hc.pm hc.nr hc.ne)) (n := 2 * n + 16) ?_ ?_ ?_
  · exact Nat.le_trans pmul_len (by omega)
  · refine Nat.le_trans padd_len (Nat.max_le.mpr ⟨Nat.le_trans pmul_len (by omega), by omega⟩)
  · exact Nat.le_trans pmul_len (by omega)
theorem fLow_len (hc : CvOk c) (hT : FnIn c T n) : (fLow c T).length ≤ 13 * n + 1 := by
  have a1 := hT.sz
  have := hc.pm.le
  have l := ppow_len (p := c.1) (a := T.2.2) (n := (c.1 - 1).toNat)
  have k : (c.1 - 1).toNat * T.2.2.length ≤ 12 * n := Nat.mul_le_mul (by omega) a1.2.2
  exact Nat.le_trans pmul_len (by omega)
theorem fHigh_len (hc : CvOk c) (hT : FnIn c T n) : (fHigh c T).length ≤ 13 * n + 58 := by
  have a1 := hT.sz
  have := hc.pm.le
  have l := ppow_len (p := c.1) (a := T.2.2) (n := (c.1 - 1).toNat)
  have k : (c.1 - 1).toNat * T.2.2.length ≤ 12 * n := Nat.mul_le_mul (by omega) a1.2.2
  have l2 := ppow_len (p := c.1) (a := c.2) (n := ((c.1 + 1) / 2).toNat)
  have k2 : ((c.1 + 1) / 2).toNat * c.2.length ≤ 7 * 8 := Nat.mul_le_mul (by omega) hc.len
  have l3 := pmul_len (p := c.1) (a := T.2.1) (b := ppow c.1 T.2.2 (c.1 - 1).toNat)
  exact Nat.le_trans pmul_len (by omega)
theorem pEvery_len {p : Int} {l : List Int} {i : Int} (hp : 0 < p) : (pEvery p l i).length ≤ l.length := Nat.le_trans trim_len (pickA_len hp)
theorem fPart_in (hc : CvOk c) (hT : FnIn c T n) (i : Int) : FnIn c (fPart c T i) (13 * n + 59) := by
  have a1 := hT.sz
  have a3 := hc.len
  have h1 := fLow_len hc hT
  have h2 := fHigh_len hc hT
  have h3 := pEvery_len (l := fLow c T) (i := i) hc.pos
  have h4 := pEvery_len (l := fHigh c T) (i := i) hc.pos
  exact least_in hc (trim_nrm hc.pos _) (trim_nrm hc.pos _) (trim_nrm hc.pos _) (pmul_ne hc.pm hT.ls.n3 hc.nr hT.ls.ne hc.ne) (n := 13 * n + 58) (Nat.le_trans pmul_len (by omega)) (by omega) (Nat.le_trans pmul_len (by omega))
end
/-! ### the promises -/
def p_Function___init__ (K : Fg) (ds : List D) (d : D) : Prop := ∃ c t s b, ds = [cvD K c, inD t, inD s, inD b] ∧ (CvOk c ∧ Nrm c.1 t ∧ Nrm c.1 s ∧ Nrm c.1 b ∧ b ≠ [] ∧ t.length ≤ 61 ∧ s.length ≤ 61 ∧ b.length ≤ 61) ∧ d = fnD K c (leastT c.1 t s b)
def p_Function_curve (K : Fg) (ds : List D) (d : D) : Prop := ∃ c T, ds = [fnD K c T] ∧ True ∧ d = cvD K c
def p_Function_top (K : Fg) (ds : List D) (d : D) : Prop := ∃ c T, ds = [fnD K c T] ∧ True ∧ d = inD T.1
def p_Function_side (K : Fg) (ds : List D) (d : D) : Prop := ∃ c T, ds = [fnD K c T] ∧ True ∧ d = inD T.2.1
def p_Function_bottom (K : Fg) (ds : List D) (d : D) : Prop := ∃ c T, ds = [fnD K c T] ∧ True ∧ d = inD T.2.2
def p_Function___eq__ (K : Fg) (ds : List D) (d : D) : Prop := ∃ c T U, ds = [fnD K c T, fnD K c U] ∧ True ∧ d = .bl (decide (T = U))
theorem fn_eq (K : Fg) (c : Cur) (T : Tri) : p_Function___eq__ K [fnD K c T, fnD K c T] (.bl true) := ⟨c, T, T, rfl, trivial, by simp⟩
def p_least_parts (ds : List D) (d : D) : Prop := ∃ p t s b, ds = [.int p, inD t, inD s, inD b] ∧ (Pm p ∧ Nrm p t ∧ Nrm p s ∧ Nrm p b ∧ b ≠ [] ∧ t.length ≤ 200000 ∧ s.length ≤ 200000 ∧ b.length ≤ 200000) ∧ d = lsD inD [(leastT p t s b).1, (leastT p t s b).2.1, (leastT p t s b).2.2]
def p_made (K : Fg) (ds : List D) (d : D) : Prop := ∃ c t s b, ds = [cvD K c, inD t, inD s, inD b] ∧ (CvOk c ∧ Nrm c.1 t ∧ Nrm c.1 s ∧ Nrm c.1 b ∧ b ≠ [] ∧ t.length ≤ 200000 ∧ s.length ≤ 200000 ∧ b.length ≤ 200000) ∧ d = fnD K c (leastT c.1 t s b)
def p_parts_of (K : Fg) (ds : List D) (d : D) : Prop := ∃ c T, ds = [fnD K c T] ∧ True ∧ d = .tup [.int c.1, inD c.2, inD T.1, inD T.2.1, inD T.2.2]
def p_is_nought (K : Fg) (ds : List D) (d : D) : Prop := ∃ c T, ds = [fnD K c T] ∧ True ∧ d = .bl (decide (nought T))
def p_plus (K : Fg) (ds : List D) (d : D) : Prop := ∃ c T U, ds = [fnD K c T, fnD K c U] ∧ (CvOk c ∧ FnIn c T 20000 ∧ FnIn c U 20000) ∧ d = fnD K c (fPlus c T U)
def p_minus (K : Fg) (ds : List D) (d : D) : Prop := ∃ c T U, ds = [fnD K c T, fnD K c U] ∧ (CvOk c ∧ FnIn c T 10000 ∧ FnIn c U 10000) ∧ d = fnD K c (fMinus c T U)
def p_times (K : Fg) (ds : List D) (d : D) : Prop := ∃ c T U, ds = [fnD K c T, fnD K c U] ∧ (CvOk c ∧ FnIn c T 20000 ∧ FnIn c U 20000) ∧ d = fnD K c (fTimes c T U)
def p_opposite (K : Fg) (ds : List D) (d : D) : Prop := ∃ c T, ds = [fnD K c T] ∧ (CvOk c ∧ FnIn c T 20000) ∧ d = fnD K c (fOpp c T)
def p_norm_top (K : Fg) (ds : List D) (d : D) : Prop := ∃ c T, ds = [fnD K c T] ∧ (CvOk c ∧ FnIn c T 20000) ∧ d = inD (fNorm c T)
def p_back_of (K : Fg) (ds : List D) (d : D) : Prop := ∃ c T, ds = [fnD K c T] ∧ (CvOk c ∧ FnIn c T 20000 ∧ fNorm c T ≠ []) ∧ d = fnD K c (leastT c.1 (pmul c.1 T.1 T.2.2) (pneg c.1 (pmul c.1 T.2.1 T.2.2)) (fNorm c T))
def p_raised_to (K : Fg) (ds : List D) (d : D) : Prop := ∃ c T n, ds = [fnD K c T, .int n] ∧ (CvOk c ∧ FnIn c T 400 ∧ 0 ≤ n ∧ n ≤ 20) ∧ d = fnD K c (fRaised c T n)
def p_power_of_fn (K : Fg) (ds : List D) (d : D) : Prop := ∃ c T n, ds = [fnD K c T, .int n] ∧ (CvOk c ∧ FnIn c T 400 ∧ 0 ≤ n ∧ n ≤ 20) ∧ d = fnD K c (fRaised c T n)
def p_slope_by (K : Fg) (ds : List D) (d : D) : Prop := ∃ c T, ds = [fnD K c T] ∧ (CvOk c ∧ FnIn c T 10000) ∧ d = fnD K c (fSlope c T)
def p_slope (K : Fg) (ds : List D) (d : D) : Prop := p_slope_by K ds d
def p_check_function (K : Fg) (ds : List D) (d : D) : Prop := ∃ c T, ds = [fnD K c T] ∧ True ∧ d = .non
def p_check_both (K : Fg) (ds : List D) (d : D) : Prop := ∃ c T U, ds = [fnD K c T, fnD K c U] ∧ True ∧ d = .non
def p_sum_of (K : Fg) (ds : List D) (d : D) : Prop := p_plus K ds d
def p_less_of (K : Fg) (ds : List D) (d : D) : Prop := p_minus K ds d
def p_every (ds : List D) (d : D) : Prop := ∃ p l i, ds = [.int p, inD l, .int i] ∧ (0 < p ∧ l.length ≤ LM) ∧ d = inD (pEvery p l i)
def p_tops_over (K : Fg) (ds : List D) (d : D) : Prop := ∃ c T, ds = [fnD K c T] ∧ (CvOk c ∧ FnIn c T 3000) ∧ d = .tup [inD (fLow c T), inD (fHigh c T)]
def p_parts_by (K : Fg) (ds : List D) (d : D) : Prop := ∃ c T, ds = [fnD K c T] ∧ (CvOk c ∧ FnIn c T 3000) ∧ d = lsD (fnD K c) (fParts c T)
def p_parts (K : Fg) (ds : List D) (d : D) : Prop := p_parts_by K ds d
def p_descent_by (K : Fg) (ds : List D) (d : D) : Prop := ∃ c T, ds = [fnD K c T] ∧ (CvOk c ∧ FnIn c T 3000) ∧ d = fnD K c (fLast c T)
def p_descent (K : Fg) (ds : List D) (d : D) : Prop := p_descent_by K ds d
def p_stretched (ds : List D) (d : D) : Prop := ∃ p l, ds = [.int p, inD l] ∧ (0 < p ∧ p ≤ 13 ∧ l.length ≤ 10000) ∧ d = inD (pStretch p l)
def p_raised_source (ds : List D) (d : D) : Prop := ∃ p l, ds = [.int p, inD l] ∧ (Pm p ∧ Nrm p l ∧ l.length ≤ 100000 ∧ ∀ k : Nat, (k : Int) % p = p - 1 → cf l k = 0) ∧ d = inD (pSrc p l)
def p_slope_source (K : Fg) (ds : List D) (d : D) : Prop := ∃ c T, ds = [fnD K c T] ∧ (CvOk c ∧ FnIn c T 3000) ∧ d = if nought (fLast c T) then fnD K c (fSrc c T) else .non
def p_whose_slope (K : Fg) (ds : List D) (d : D) : Prop := p_slope_source K ds d
end Cw
set_option maxHeartbeats 4000000
namespace Cw
open PySem PySem.Spec PyProof.Rows L2
section
variable {K : Fg} {G : Ctx} {te ta tb tc tv : TE} {tt tu : TT} {tr : TA} {t u r : TS} {d e : D} {ds fs : List D} {ns : List Str} {C : Addr}
theorem SOk.setUn {F0 H0 F H : Hp} {σ : L2.St} (s : SOk K F0 H0 F H σ G) {j : Nat} (o : Option V) (h : G[j]? = some .un) : SOk K F0 H0 F H (σ.set j o) G where
  st := s.st
  len := by rw [List.length_set]; exact s.len
  sl := fun i c e => by
    by_cases q : j = i
    · subst q
      rw [h] at e
      cases e
      have hl : j < σ.length := by rw [s.len]; exact (List.getElem?_eq_some_iff.mp h).1
      exact ⟨o, by rw [List.getElem?_set_self hl], trivial⟩
    · rw [List.getElem?_set_ne q]; exact s.sl i c e
  ap := fun i k es gs a e1 e2 h1 h2 => by
    have ni : j ≠ i := fun z => by subst z; rw [h] at e1; cases e1
    have nk : j ≠ k := fun z => by subst z; rw [h] at e2; cases e2
    rw [List.getElem?_set_ne ni] at h1
    rw [List.getElem?_set_ne nk] at h2
    exact s.ap i k es gs a e1 e2 h1 h2
theorem weak_set {j : Nat} {c : Sl} (h : G[j]? = some .un) : Weak (G.set j c) G := ⟨List.length_set, fun i s e => by
  by_cases q : j = i
  · subst q; rw [h] at e; cases e; exact .inl rfl
  · exact .inr (by rw [List.getElem?_set_ne q]; exact e)⟩
/-- for x in things: f(x), the slots as they are but x -/
theorem raw_for {wi : TI} {j : Nat} {F0 H0 F H : Hp} {σ : L2.St} {E : Ends} (hu : G[j]? = some .un) (hi : ItD K wi G ds) (hb : ∀ d, d ∈ ds → ∃ e, EvD K te (G.set j (.val d)) e) (s : SOk K F0 H0 F H σ G)
    (k : ∀ σ' F' H', Step F H F' H' → SOk K F0 H0 F' H' σ' G → (∀ i, i ≠ j → σ'[i]? = σ[i]?) → r E σ' H') : tSeq (tFor wi (gName j) (tDrop te)) r E σ H := by
  refine hi F0 H0 F H σ s _ fun J F1 H1 t1 w => ?_
  refine ⟨fun i m σ' H' => m = ds.length - i ∧ i ≤ ds.length ∧ ∃ F', Step F1 H1 F' H' ∧ SOk K F0 H0 F' H' σ' G ∧ ∀ l, l ≠ j → σ'[l]? = σ[l]?, ⟨ds.length, rfl, Nat.zero_le _, F1, Step.refl t1.fh, s.step t1, fun _ _ => rfl⟩, ?_⟩
  rintro i m σ' H' ⟨rfl, hi, F', st, s', hl⟩
  obtain ⟨w1, w2⟩ := w F' H' st.ff s'.fh
  by_cases hlt : i < ds.length
  · obtain ⟨go, yl⟩ := w1 i _ (List.getElem?_eq_getElem hlt)
    obtain ⟨e, he⟩ := hb ds[i] (List.getElem_mem hlt)
    refine .inr ⟨go, fun σ2 H2 => ∃ F2, Step F1 H1 F2 H2 ∧ SOk K F0 H0 F2 H2 σ2 G ∧ ∀ l, l ≠ j → σ2[l]? = σ[l]?, fun σ2 H2 ⟨F2, p1, p2, p3⟩ => ⟨ds.length - (i + 1), by omega, rfl, hlt, F2, p1, p2, p3⟩, fun x H2 y => ?_⟩
    obtain ⟨F2, t2, r2⟩ := yl x H2 y
    have s2 := (s'.step t2).set (i := j) r2
    refine he F0 H0 F2 H2 _ s2 _ fun v F3 H3 t3 _ => ⟨F3, (st.trans t2).trans t3, ?_, fun l hn => by rw [List.getElem?_set_ne (Ne.symm hn)]; exact hl l hn⟩
    exact (s2.step t3).weak (weak_set hu)
  · have e : i = ds.length := by omega
    subst e
    exact .inl ⟨w2 _ (Nat.le_refl _), k σ' F' H' (t1.trans st) s' hl⟩
/-- self.f = e, the object apart, any f -/
theorem fld_put {f : Str} {F0 H0 F H : Hp} {σ : L2.St} {E : Ends} {i : Nat} {x dx : Addr} {ws : List V} {g : V → List V} (c : Cls K C) (n : NoAttr K C f) (hl : ns.length < 1000) (s : SOk K F0 H0 F H σ G) (h : EvD K tv G d) (hs : σ[i]? = some (some (.ref x))) (h0 : H0 x = none) (hf : F x = none) (hx : H x = some (.ins C dx (ns.zip ws))) (hw : ws.length = ns.length)
    (hp : ∀ v, putF f v (ns.zip ws) = ns.zip (g v))
    (q : ∀ v F' H', Step F H F' H' → F' x = none → SOk K F0 H0 F' (upd H' x (.ins C dx (ns.zip (g v)))) σ G → Rep K F' d v → E.nx σ (upd H' x (.ins C dx (ns.zip (g v))))) : sFld K (tVar i) tv f E σ H := by
  refine h F0 H0 F H σ s _ fun v F1 H1 t1 r1 => ⟨.ref x, hs, x, C, dx, ns.zip ws, rfl, (t1.kp hx hf).1, c, n, ?_, ?_⟩
  · rw [List.length_zip, hw]; omega
  · rw [hp v]
    exact q v F1 H1 t1 (t1.kp hx hf).2 ((s.step t1).mutX h0 (t1.kp hx hf).2 (t1.kp hx hf).1) r1
/-- a name for a new object that stands apart -/
theorem raw_mk {P : List D → D → Prop} {X : XK} {i : Nat} {E : Ends} (h : EvA K tr G ds) (p : P ds (.ins C ns fs)) {F0 H0 F H : Hp} {σ : L2.St} (s : SOk K F0 H0 F H σ G)
    (q : ∀ x dx ws F' H', Step F H F' H' → H x = none → F' x = none → H' x = some (.ins C dx (ns.zip ws)) → ws.length = ns.length → Reps K F' fs ws → r E (σ.set i (some (.ref x))) H') : tSeq (tAsg (tMake C (spI K C P) [] X tr) (gName i)) r E σ H := mk_apart h p s (Q := fun v H' => r E (σ.set i (some v)) H') q
theorem st_nx {F0 H0 F H : Hp} {σ : L2.St} {E : Ends} {G' : Ctx} (s : SOk K F0 H0 F H σ G) (h : StD K t G (.nx G')) (k : ∀ σ' F' H', SOk K F0 H0 F' H' σ' G' → Same F F' → r E σ' H') : tSeq t r E σ H := h F0 H0 F H σ _ s fun σ' F' H' s' f => k σ' F' H' s' f
theorem ev_abs {i : Int} (ha : EvD K ta G (.int i)) : EvD K (tCB (fun xs H Q => ∃ i, xs = [V.int i] ∧ Q (.int (if i < 0 then -i else i)) H) (tCons ta tNil)) G (.int (if i < 0 then -i else i)) := ev_cb (ea_cons ha ea_nil) fun F H vs s hx Q q => by
  obtain ⟨v, r, rfl, h1, h3⟩ := hx
  cases h1
  cases h3
  exact ⟨i, rfl, q _ F H (Step.refl s) rfl⟩
end
theorem dvd_len {p : Int} (hp : Pm p) {a g : List Int} (na : Nrm p a) (ng : Nrm p g) (ha : a ≠ []) (h : Dvd p g a) : g.length ≤ a.length := by
  obtain ⟨x, nx, hx⟩ := h
  have hg : g ≠ [] := fun z => by
    rw [z, ps_nil] at hx
    exact ps_ne hp.pos na ha (by rw [hx]; grind)
  have xe : x ≠ [] := fun z => by
    rw [z, ps_nil] at hx
    exact ps_ne hp.pos na ha (by rw [hx]; grind)
  have e : a = pmul p x g := ps_inj hp.pos na (trim_nrm hp.pos _) (by rw [hx, ps_pmul])
  have l := pmul_len3 hp nx ng xe hg
  rw [← e] at l
  have := List.length_pos_iff.mpr xe
  omega
theorem pgcd_len {p : Int} (hp : Pm p) {a b : List Int} (na : Nrm p a) (nb : Nrm p b) : (pgcd p a b).length ≤ max a.length b.length := by
  obtain ⟨ng, _, d1, d2⟩ := gcd_two hp na nb
  by_cases ha : a = []
  · by_cases hb : b = []
    · subst ha hb; simp [pgcd_nil]
    · have := dvd_len hp nb ng hb d2; omega
  · have := dvd_len hp na ng ha d1; omega
theorem foldl_snoc {α β : Type} (g : α → β) : ∀ (l : List α) (a : List β), l.foldl (fun acc x => acc ++ [g x]) a = a ++ l.map g
  | [], a => by simp
  | x :: l, a => by rw [List.foldl_cons, foldl_snoc g l, List.map_cons, List.append_assoc]; rfl
theorem parts_last {K : Fg} {c : Cur} {T : Tri} (hp : 0 < c.1) : atI ((fParts c T).map (fnD K c)) (-1) = some (fnD K c (fLast c T)) := by
  apply atI_last1
  unfold fParts rangeI
  obtain ⟨n, hn⟩ : ∃ n, c.1.toNat = n + 1 := ⟨c.1.toNat - 1, by omega⟩
  have e : (n : Int) = c.1 - 1 := by omega
  rw [hn, List.range_succ]
  simp [fLast, e]
theorem enumI_cf {l : List Int} {i x : Int} (h : (i, x) ∈ enumI l) : x = cf l i.toNat := by
  unfold enumI at h
  obtain ⟨k, hk⟩ := List.getElem?_of_mem h
  rw [List.getElem?_mapIdx] at hk
  cases e : l[k]? with
  | none => rw [e] at hk; cases hk
  | some y =>
    rw [e] at hk
    have hk' : ((k : Int), y) = (i, x) := Option.some.inj hk
    cases hk'
    have := (List.getElem?_eq_some_iff.mp e).1
    rw [Int.toNat_natCast]
    have := cf_get this
    rw [e] at this
    exact Option.some.inj this
theorem pick_zero {p : Int} (hp : 0 < p) {l : List Int} (nl : Nrm p l) (h : pEvery p l (p - 1) = []) : ∀ k : Nat, (k : Int) % p = p - 1 → cf l k = 0 := by
  intro k hk
  have h1 : cf (pEvery p l (p - 1)) (k / p.toNat) = 0 := by rw [h]; rfl
  unfold pEvery at h1
  obtain ⟨q, hq⟩ : ∃ q : Nat, p = (q : Int) := ⟨p.toNat, by omega⟩
  subst hq
  rw [cf_trim, show (q : Int) - 1 = ((q - 1 : Nat) : Int) by omega, pick_cf (by omega), Int.toNat_natCast] at h1
  have e : q - 1 + q * (k / q) = k := by
    have h2 : k % q = q - 1 := by omega
    have := Nat.mod_add_div k q
    omega
  rw [e] at h1
  have := nl.bd hp k
  rwa [Int.emod_eq_of_lt this.1 this.2] at h1
theorem last_zero {c : Cur} {T : Tri} (cv : CvOk c) (hT : LsOk c.1 T) (h : nought (fLast c T)) : ∀ k : Nat, (k : Int) % c.1 = c.1 - 1 → cf (fLow c T) k = 0 ∧ cf (fHigh c T) k = 0 := by
  have hp := cv.pos
  have hpg := cv.pm.ge
  obtain ⟨_, k, hk, k1, k2, _⟩ := least_ok cv.pm (t := pmul c.1 (pEvery c.1 (fLow c T) (c.1 - 1)) c.2) (s := pEvery c.1 (fHigh c T) (c.1 - 1)) (b := pmul c.1 T.2.2 c.2) (trim_nrm hp _) (trim_nrm hp _) (trim_nrm hp _) (pmul_ne cv.pm hT.n3 cv.nr hT.ne cv.ne)
  obtain ⟨h1, h2⟩ := h
  unfold fLast fPart at h1 h2
  rw [h1, ps_nil] at k1
  rw [h2, ps_nil] at k2
  have e1 : pEvery c.1 (fLow c T) (c.1 - 1) = [] := Classical.byContradiction fun z => ps_ne hp (trim_nrm hp _) (pmul_ne cv.pm (trim_nrm hp _) cv.nr z cv.ne) (k1.trans (by grind))
  have e2 : pEvery c.1 (fHigh c T) (c.1 - 1) = [] := (ps_eq0 hp (trim_nrm hp _)).mp (k2.trans (by grind))
  exact fun j hj => ⟨pick_zero hp (trim_nrm hp _) e1 j hj, pick_zero hp (trim_nrm hp _) e2 j hj⟩
theorem pSrc_len {p : Int} {l : List Int} : (pSrc p l).length ≤ l.length + 1 := Nat.le_trans trim_len (by
  unfold srF
  rw [foldl_len _ (fun _ _ => by split <;> simp), List.length_replicate]
  omega)
theorem pStretch_len0 {p : Int} {l : List Int} (h : l ≠ []) : (pStretch p l).length = (p * ((l.length : Int) - 1) + 1).toNat := by
  unfold pStretch stF
  rw [if_neg h, foldl_len _ (fun _ _ => by simp), List.length_replicate]
theorem pStretch_len {p : Int} {l : List Int} (hp : 0 < p) (h : p ≤ 13) : (pStretch p l).length ≤ 13 * l.length + 1 := by
  by_cases z : l = []
  · subst z; simp [pStretch]
  · rw [pStretch_len0 z]
    have := List.length_pos_iff.mpr z
    have : p * ((l.length : Int) - 1) ≤ 13 * l.length := Int.mul_le_mul (by omega) (by omega) (by omega) (by omega)
    omega
theorem StD.nxc {K : Fg} {t : TS} {G G1 G2 : Ctx} (h : StD K t G (.nx G1)) (e : G1 = G2) : StD K t G (.nx G2) := e ▸ h
theorem cf_spread {q : Nat} (hq : 0 < q) (acc : List Int) : ∀ l : List Int, (∀ i, i < l.length → q * i < acc.length) → ∀ k, cf ((enumI l).foldl (fun s r => s.set ((q : Int) * r.1).toNat r.2) acc) k = if k % q = 0 ∧ k / q < l.length then cf l (k / q) else cf acc k := by
  refine snoc_ind ?_ fun l x ih => ?_
  · intro _ k; simp [enumI]
  · intro h k
    have ih' := ih (fun i hi => h i (by rw [List.length_append]; omega))
    have hx := h l.length (by rw [List.length_append]; show l.length < l.length + 1; omega)
    rw [enumI_snoc, List.foldl_append]
    show cf ((List.foldl _ acc (enumI l)).set ((q : Int) * (l.length : Int)).toNat x) k = _
    have e : ((q : Int) * (l.length : Int)).toNat = q * l.length := by
      rw [show ((q : Int) * (l.length : Int)) = ((q * l.length : Nat) : Int) by simp, Int.toNat_natCast]
    have hlen : (List.foldl (fun s r => s.set ((q : Int) * r.1).toNat r.2) acc (enumI l)).length = acc.length := foldl_len _ (fun _ _ => by simp) _ _
    rw [e, cf_set (by rw [hlen]; exact hx), ih', cf_snoc]
    have hdm := Nat.mod_add_div k q
    by_cases hk : k = q * l.length
    · subst hk
      rw [if_pos rfl, if_pos]
      · rw [if_pos (by rw [Nat.mul_div_cancel_left _ hq])]
      · rw [Nat.mul_mod_right, Nat.mul_div_cancel_left _ hq, List.length_append]
        exact ⟨rfl, by show l.length < l.length + 1; omega⟩
    · rw [if_neg hk]
      have hne : k % q = 0 → k / q ≠ l.length := fun z1 z2 => hk (by rw [z1, z2] at hdm; omega)
      by_cases z : k % q = 0
      · by_cases z2 : k / q < l.length
        · rw [if_pos ⟨z, z2⟩, if_pos ⟨z, by rw [List.length_append]; omega⟩, if_neg (hne z)]
        · rw [if_neg (fun y => z2 y.2), if_neg]
          rintro ⟨_, y⟩
          rw [List.length_append] at y
          have : k / q < l.length + 1 := y
          have := hne z
          omega
      · rw [if_neg (fun y => z y.1), if_neg (fun y => z y.1)]
theorem cf_stretch {q : Nat} (hq : 0 < q) (l : List Int) (k : Nat) : cf (pStretch (q : Int) l) k = if k % q = 0 then cf l (k / q) else 0 := by
  unfold pStretch
  by_cases hl : l = []
  · subst hl
    rw [if_pos rfl]
    split <;> rfl
  · rw [if_neg hl]
    unfold stF
    have := List.length_pos_iff.mpr hl
    have e : ((q : Int) * ((l.length : Int) - 1) + 1).toNat = q * (l.length - 1) + 1 := by
      rw [show ((q : Int) * ((l.length : Int) - 1) + 1) = ((q * (l.length - 1) + 1 : Nat) : Int) by
        rw [show ((l.length : Int) - 1) = ((l.length - 1 : Nat) : Int) by omega]; simp, Int.toNat_natCast]
    rw [cf_spread hq, cf_rep]
    · by_cases z : k % q = 0
      · rw [if_pos z]
        by_cases z2 : k / q < l.length
        · rw [if_pos ⟨z, z2⟩]
        · rw [if_neg (fun y => z2 y.2), cf_out (by omega)]
      · rw [if_neg z, if_neg (fun y => z y.1)]
    · intro i hi
      rw [List.length_replicate, e]
      have : q * i ≤ q * (l.length - 1) := Nat.mul_le_mul_left _ (by omega)
      omega
theorem pStretch_ne {p : Int} {l : List Int} (hp : 0 < p) (h : l ≠ []) : pStretch p l ≠ [] := fun z => by
  have := pStretch_len0 (p := p) h
  rw [z] at this
  have hl := List.length_pos_iff.mpr h
  have : 0 ≤ p * ((l.length : Int) - 1) := Int.mul_nonneg (by omega) (by omega)
  simp at *
  omega
theorem mem_cf {l : List Int} {x : Int} (h : x ∈ l) : ∃ i, i < l.length ∧ x = cf l i := by
  obtain ⟨k, hk⟩ := List.getElem?_of_mem h
  have hl := (List.getElem?_eq_some_iff.mp hk).1
  rw [cf_get hl] at hk
  exact ⟨k, hl, (Option.some.inj hk).symm⟩
theorem pStretch_nrm {p : Int} {l : List Int} (hp : 0 < p) (h : Nrm p l) : Nrm p (pStretch p l) := by
  obtain ⟨q, rfl⟩ : ∃ q : Nat, p = (q : Int) := ⟨p.toNat, by omega⟩
  have hq : 0 < q := by omega
  refine ⟨fun x hx => ?_, fun hne => ?_⟩
  · obtain ⟨i, _, rfl⟩ := mem_cf hx
    rw [cf_stretch hq]
    split
    · exact h.bd hp _
    · omega
  · have hl : l ≠ [] := fun z => hne (by rw [z]; rfl)
    have := List.length_pos_iff.mpr hl
    rw [lastI_cf hne, pStretch_len0 hl, cf_stretch hq]
    have e : ((q : Int) * ((l.length : Int) - 1) + 1).toNat - 1 = q * (l.length - 1) := by
      rw [show ((q : Int) * ((l.length : Int) - 1) + 1) = ((q * (l.length - 1) + 1 : Nat) : Int) by
        rw [show ((l.length : Int) - 1) = ((l.length - 1 : Nat) : Int) by omega]; simp, Int.toNat_natCast]
      rfl
    rw [e, Nat.mul_mod_right, if_pos rfl, Nat.mul_div_cancel_left _ hq, ← lastI_cf hl]
    exact h.2 hl
end Cw
set_option maxHeartbeats 4000000
namespace Cw
open PySem PySem.Spec PyProof.Rows L2
/-! ### the law's own reckoning: plain part -/
theorem drop_fold {α : Type} : ∀ (xs : List α) (l : List Int), l.length ≤ xs.length → xs.foldl (fun l _ => if !decide (l = []) && decide (lastI l = 0) then l.dropLast else l) l = dropZ l
  | [], l, h => by
    have : l = [] := List.length_eq_zero_iff.mp (by simpa using h)
    subst this; rfl
  | x :: xs, l, h => by
    rw [List.foldl_cons]
    by_cases e : l = []
    · subst e
      rw [if_neg (by simp)]
      exact drop_fold xs [] (by simp)
    · obtain ⟨l', y, rfl⟩ := snoc_of e
      by_cases hy : y = 0
      · rw [if_pos (by simp [lastI_snoc, hy]), dropZ_snoc, if_pos hy, List.dropLast_concat]
        refine drop_fold xs l' ?_
        simp at h; omega
      · rw [if_neg (by simp [lastI_snoc, hy]), dropZ_snoc, if_neg hy]
        have stay : ∀ ys : List α, ys.foldl (fun l _ => if !decide (l = []) && decide (lastI l = 0) then l.dropLast else l) (l' ++ [y]) = l' ++ [y] := by
          intro ys
          induction ys with
          | nil => rfl
          | cons z ys ih => rw [List.foldl_cons, if_neg (by simp [lastI_snoc, hy])]; exact ih
        exact stay xs
/-- the product, noughts passed over -/
def lmF (a b : List Int) : List Int := (enumI a).foldl (fun l q => if q.2 = 0 then l else addAt q.1 q.2 b l) (List.replicate (a.length + b.length - 1) 0)
theorem lmF_len {a b : List Int} : (lmF a b).length = a.length + b.length - 1 := by
  unfold lmF
  rw [foldl_len _ (fun l q => by split <;> simp [addAt_len])]; simp
theorem cf_lmG (b : List Int) (n : Nat) : ∀ a : List Int, a.length + b.length ≤ n + 1 → ∀ k, cf ((enumI a).foldl (fun l q => if q.2 = 0 then l else addAt q.1 q.2 b l) (List.replicate n 0)) k = sm a.length fun i => if i ≤ k then cf a i * cf b (k - i) else 0 := by
  intro a
  induction a using snoc_ind with
  | h0 => intro _ k; exact cf_rep
  | hs a x ih =>
    intro hn k
    rw [List.length_append, List.length_singleton] at hn
    rw [enumI_snoc, List.foldl_append]
    simp only [List.foldl_cons, List.foldl_nil]
    have hl : ((enumI a).foldl (fun l q => if q.2 = 0 then l else addAt q.1 q.2 b l) (List.replicate n 0)).length = n := by
      rw [foldl_len _ (fun l q => by split <;> simp [addAt_len])]; simp
    have e : cf (if x = 0 then (enumI a).foldl (fun l q => if q.2 = 0 then l else addAt q.1 q.2 b l) (List.replicate n 0) else addAt (a.length : Int) x b ((enumI a).foldl (fun l q => if q.2 = 0 then l else addAt q.1 q.2 b l) (List.replicate n 0))) k = cf ((enumI a).foldl (fun l q => if q.2 = 0 then l else addAt q.1 q.2 b l) (List.replicate n 0)) k + if a.length ≤ k then x * cf b (k - a.length) else 0 := by
      by_cases hx : x = 0
      · rw [if_pos hx, hx]
        split <;> omega
      · rw [if_neg hx, cf_addAt _ _ (by rw [hl]; omega)]
    rw [e, ih (by omega), List.length_append, List.length_singleton, sm_succ]
    congr 1
    · apply sm_congr
      intro i hi
      simp only [cf_snoc, if_neg (show ¬ i = a.length by omega)]
    · rw [cf_snoc, if_pos rfl]
theorem cf_lmF {a b : List Int} {k : Nat} : cf (lmF a b) k = conv a b k := by
  unfold lmF conv
  rw [cf_lmG b _ a (by omega)]
  by_cases h : a.length ≤ k + 1
  · rw [sm_ext (n := a.length) (m := k + 1) (f := fun i => cf a i * cf b (k - i)) (fun i hi => by rw [cf_out hi, Int.zero_mul]) h]
    apply sm_congr
    intro i hi
    rw [if_pos (by omega)]
  · rw [sm_ext (n := k + 1) (m := a.length) (f := fun i => if i ≤ k then cf a i * cf b (k - i) else 0) (fun i hi => if_neg (by omega)) (by omega)]
    apply sm_congr
    intro i hi
    rw [if_pos (by omega)]
theorem lm_eq {p : Int} (hp : 0 < p) {a b : List Int} : trim p (lmF a b) = pmul p a b := trim_ext hp fun i => by rw [cf_lmF, cf_mulF]
theorem pscl_neg {p : Int} {a : List Int} : pscl p a (-1) = pneg p a := by
  unfold pscl pneg
  congr 1
  apply List.map_congr_left
  intro x _
  omega
/-- division: what is left and how often is told by what they are -/
theorem rem_uniq {p : Int} (hp : Pm p) {a b r x : List Int} (hb : b ≠ []) (nb : Nrm p b) (nr : Nrm p r) (h : ps p a = ps p x * ps p b + ps p r) (hl : r.length < b.length) : prem p a b = r ∧ ps p (pquo p a b) = ps p x := by
  obtain ⟨h1, h2⟩ := div_eq hp (a := a) hb nb
  have hbn := ps_ne hp.pos nb hb
  have hd : psub p x (pquo p a b) = [] := Classical.byContradiction fun z => by
    have e : pmul p (psub p x (pquo p a b)) b = psub p (prem p a b) r := ps_inj hp.pos (trim_nrm hp.pos _) (trim_nrm hp.pos _) (by
      rw [ps_pmul, ps_psub, ps_psub]
      rw [h] at h1
      grind)
    have l1 := pmul_len3 hp (trim_nrm hp.pos _) nb z hb
    rw [show trim p (mk (max x.length (pneg p (pquo p a b)).length) fun i => cf x i + cf (pneg p (pquo p a b)) i) = psub p x (pquo p a b) from rfl, e] at l1
    have l2 := psub_len (p := p) (a := prem p a b) (b := r)
    have := List.length_pos_iff.mpr z
    omega
  have e2 : ps p x = ps p (pquo p a b) := by
    have := ps_psub (p := p) (a := x) (b := pquo p a b)
    rw [hd, ps_nil] at this
    grind
  refine ⟨ps_inj hp.pos (prem_nrm hp.pos) nr ?_, e2.symm⟩
  rw [h, e2] at h1
  grind
/-! ### what is left -/
def lrBy (back : Int) (b l : List Int) : List Int := List.replicate (l.length - b.length) 0 ++ [lastI l * back]
def lrStep (p back : Int) (b l : List Int) : List Int := if b.length ≤ l.length then padd p l (pscl p (pmul p (lrBy back b l) b) (-1)) else l
def lwBy (p back : Int) (b l : List Int) : List Int := List.replicate (l.length - b.length) 0 ++ [lastI l * back % p]
def lwStep (p back : Int) (b : List Int) (s : List Int × List Int) : List Int × List Int := if b.length ≤ s.1.length then (padd p s.1 (pscl p (pmul p (lwBy p back b s.1) b) (-1)), padd p s.2 (lwBy p back b s.1)) else s
theorem ps_shift {p : Int} {n : Nat} {x : Int} : ps p (List.replicate n 0 ++ [x]) = PS.C (ZM.mk p x) * PS.X n := PS.ext fun k => by
  rw [PS.C_mul, ps_at, cf_app, List.length_replicate, cf_rep]
  have hX : (PS.X n : PZ p) k = if n = k then 1 else 0 := by
    have := PS.X_mul n (1 : PZ p) k
    rw [show (PS.X n : PZ p) * 1 = PS.X n by grind] at this
    rw [this]
    by_cases h : n ≤ k
    · rw [if_pos h, PS.one_at]
      by_cases h2 : n = k
      · rw [if_pos h2, if_pos (by omega)]
      · rw [if_neg h2, if_neg (by omega)]
    · rw [if_neg h, if_neg (by omega)]
  rw [hX]
  by_cases h : k < n
  · rw [if_pos h, if_neg (by omega)]
    show ZM.mk p 0 = _
    rw [ZM.mk_zero]; grind
  · rw [if_neg h]
    by_cases h2 : n = k
    · subst h2
      rw [if_pos rfl, Nat.sub_self]
      show ZM.mk p x = _
      grind
    · rw [if_neg h2, cf_out (by simp; omega)]
      rw [ZM.mk_zero]; grind
/-- one step lowers -/
theorem lr_low {p : Int} (hp : Pm p) {b l : List Int} (hb : b ≠ []) (nb : Nrm p b) (nl : Nrm p l) (h : b.length ≤ l.length) {y : List Int} (hy : ps p y = PS.C (ZM.mk p (lastI l * pinv p (lastI b))) * PS.X (l.length - b.length)) : (padd p l (pscl p (pmul p y b) (-1))).length < l.length ∧ ps p (padd p l (pscl p (pmul p y b) (-1))) = ps p l - ps p y * ps p b := by
  have e : ps p (padd p l (pscl p (pmul p y b) (-1))) = ps p l - ps p y * ps p b := by
    rw [pscl_neg, ps_padd, ps_pneg, ps_pmul]; grind
  refine ⟨?_, e⟩
  have hbl := List.length_pos_iff.mpr hb
  have hl : l ≠ [] := fun z => by
    subst z
    have h' : b.length ≤ 0 := h
    omega
  have key : PS.Lt (l.length - 1) (ps p (padd p l (pscl p (pmul p y b) (-1)))) := fun k hk => by
    rw [e, hy, PS.sub_at, show PS.C (ZM.mk p (lastI l * pinv p (lastI b))) * PS.X (l.length - b.length) * ps p b = PS.C (ZM.mk p (lastI l * pinv p (lastI b))) * (PS.X (l.length - b.length) * ps p b) by grind, PS.C_mul, PS.X_mul]
    by_cases hk2 : k = l.length - 1
    · subst hk2
      rw [if_pos (by omega), show l.length - 1 - (l.length - b.length) = b.length - 1 by omega, ps_at, ps_at, ← lastI_cf hl, ← lastI_cf hb, ZM.mk_mul, ZM.mk_sub]
      obtain ⟨k1, k2, k3⟩ := pinv_mem hp (nb.lmod hb)
      apply ZM.eq_zero.mpr
      rw [Int.mul_assoc, Int.sub_emod, Int.mul_emod, k3]
      simp
    · rw [ps_at, cf_out (by omega)]
      rw [if_pos (by omega), ps_at, cf_out (by omega), ZM.mk_zero]; grind
  have := len_lt hp.pos (trim_nrm hp.pos _) key
  have := List.length_pos_iff.mpr hl
  show (trim p _).length < _
  omega
/-- the loops -/
theorem lr_fold {α : Type} {p : Int} (hp : Pm p) {b : List Int} (hb : b ≠ []) (nb : Nrm p b) : ∀ (xs : List α) (l : List Int), Nrm p l → l.length ≤ xs.length → ∃ x, ps p l = ps p x * ps p b + ps p (xs.foldl (fun l _ => lrStep p (pinv p (lastI b)) b l) l) ∧ Nrm p (xs.foldl (fun l _ => lrStep p (pinv p (lastI b)) b l) l) ∧ (xs.foldl (fun l _ => lrStep p (pinv p (lastI b)) b l) l).length < b.length
  | [], l, nl, h => ⟨[], by rw [ps_nil]; simp only [List.foldl_nil]; grind, nl, by
      have := List.length_pos_iff.mpr hb
      simp at h
      simp [h]; omega⟩
  | x :: xs, l, nl, h => by
    rw [List.foldl_cons]
    by_cases hl : b.length ≤ l.length
    · have e : lrStep p (pinv p (lastI b)) b l = padd p l (pscl p (pmul p (lrBy (pinv p (lastI b)) b l) b) (-1)) := if_pos hl
      obtain ⟨h1, h2⟩ := lr_low hp hb nb nl hl (y := lrBy (pinv p (lastI b)) b l) ps_shift
      rw [← e] at h1 h2
      obtain ⟨x, i1, i2, i3⟩ := lr_fold hp hb nb xs (lrStep p (pinv p (lastI b)) b l) (by rw [e]; exact trim_nrm hp.pos _) (by simp at h; omega)
      refine ⟨padd p x (lrBy (pinv p (lastI b)) b l), ?_, i2, i3⟩
      rw [ps_padd]
      rw [i1] at h2
      grind
    · have e : lrStep p (pinv p (lastI b)) b l = l := if_neg hl
      have stay : ∀ ys : List α, ys.foldl (fun l _ => lrStep p (pinv p (lastI b)) b l) l = l := by
        intro ys
        induction ys with
        | nil => rfl
        | cons z ys ih => rw [List.foldl_cons, e]; exact ih
      rw [e, stay]
      exact ⟨[], by rw [ps_nil]; grind, nl, by omega⟩
theorem lw_fold {α : Type} {p : Int} (hp : Pm p) {b : List Int} (hb : b ≠ []) (nb : Nrm p b) : ∀ (xs : List α) (s : List Int × List Int), Nrm p s.1 → Nrm p s.2 → s.1.length ≤ xs.length →
    ps p (xs.foldl (fun s _ => lwStep p (pinv p (lastI b)) b s) s).2 * ps p b + ps p (xs.foldl (fun s _ => lwStep p (pinv p (lastI b)) b s) s).1 = ps p s.2 * ps p b + ps p s.1 ∧ Nrm p (xs.foldl (fun s _ => lwStep p (pinv p (lastI b)) b s) s).1 ∧ Nrm p (xs.foldl (fun s _ => lwStep p (pinv p (lastI b)) b s) s).2 ∧ (xs.foldl (fun s _ => lwStep p (pinv p (lastI b)) b s) s).1.length < b.length
  | [], s, n1, n2, h => ⟨rfl, n1, n2, by
      have := List.length_pos_iff.mpr hb
      simp at h
      simp [h]; omega⟩
  | x :: xs, s, n1, n2, h => by
    rw [List.foldl_cons]
    by_cases hl : b.length ≤ s.1.length
    · have e : lwStep p (pinv p (lastI b)) b s = (padd p s.1 (pscl p (pmul p (lwBy p (pinv p (lastI b)) b s.1) b) (-1)), padd p s.2 (lwBy p (pinv p (lastI b)) b s.1)) := if_pos hl
      obtain ⟨h1, h2⟩ := lr_low hp hb nb n1 hl (y := lwBy p (pinv p (lastI b)) b s.1) (by unfold lwBy; rw [ps_shift, ZM.mod_mk])
      have e1 : (lwStep p (pinv p (lastI b)) b s).1 = padd p s.1 (pscl p (pmul p (lwBy p (pinv p (lastI b)) b s.1) b) (-1)) := by rw [e]
      have e2 : (lwStep p (pinv p (lastI b)) b s).2 = padd p s.2 (lwBy p (pinv p (lastI b)) b s.1) := by rw [e]
      rw [← e1] at h1 h2
      obtain ⟨i1, i2, i3, i4⟩ := lw_fold hp hb nb xs (lwStep p (pinv p (lastI b)) b s) (by rw [e1]; exact trim_nrm hp.pos _) (by rw [e2]; exact trim_nrm hp.pos _) (by simp at h; omega)
      refine ⟨?_, i2, i3, i4⟩
      rw [i1, h2, e2, ps_padd]
      grind
    · have e : lwStep p (pinv p (lastI b)) b s = s := if_neg hl
      have stay : ∀ ys : List α, ys.foldl (fun s _ => lwStep p (pinv p (lastI b)) b s) s = s := by
        intro ys
        induction ys with
        | nil => rfl
        | cons z ys ih => rw [List.foldl_cons, e]; exact ih
      rw [e, stay]
      exact ⟨rfl, n1, n2, by omega⟩
theorem lr_eq {p : Int} (hp : Pm p) {a b : List Int} (hb : b ≠ []) (nb : Nrm p b) (na : Nrm p a) : (rangeI 0 a.length).foldl (fun l _ => lrStep p (pinv p (lastI b)) b l) a = prem p a b := by
  obtain ⟨x, h1, h2, h3⟩ := lr_fold hp hb nb (rangeI 0 a.length) a na (by rw [rangeI_len]; omega)
  exact (rem_uniq hp hb nb h2 h1 h3).1.symm
theorem lw_eq {p : Int} (hp : Pm p) {a b : List Int} (hb : b ≠ []) (nb : Nrm p b) (na : Nrm p a) : ((rangeI 0 a.length).foldl (fun s _ => lwStep p (pinv p (lastI b)) b s) (a, [])).2 = pquo p a b := by
  obtain ⟨h1, h2, h3, h4⟩ := lw_fold hp hb nb (rangeI 0 a.length) (a, []) na nrm_nil (by rw [rangeI_len]; exact Nat.le_refl _)
  refine ps_inj hp.pos h3 (pquo_nrm hp.pos) (rem_uniq hp hb nb h2 (x := ((rangeI 0 a.length).foldl (fun s _ => lwStep p (pinv p (lastI b)) b s) (a, [])).2) ?_ h4).2.symm
  rw [ps_nil] at h1
  rw [h1]; grind
/-! ### the common factor, any of them -/
structure GcdU (p : Int) (a b g : List Int) : Prop where
  nr : Nrm p g
  ne : a ≠ [] ∨ b ≠ [] → g ≠ []
  da : Dvd p g a
  db : Dvd p g b
  bz : ∃ u v, ps p g = ps p u * ps p a + ps p v * ps p b
def lcStep (p : Int) (s : List Int × List Int) : List Int × List Int := if s.2 = [] then s else (s.2, prem p s.1 s.2)
def lcF (p : Int) (a b : List Int) : List Int := ((rangeI 0 (a.length + b.length + 1)).foldl (fun s _ => lcStep p s) (a, b)).1
structure LcI (p : Int) (a b : List Int) (s : List Int × List Int) : Prop where
  n1 : Nrm p s.1
  n2 : Nrm p s.2
  b1 : ∃ u v, ps p s.1 = ps p u * ps p a + ps p v * ps p b
  b2 : ∃ u v, ps p s.2 = ps p u * ps p a + ps p v * ps p b
  d1 : ∃ x y, ps p a = ps p x * ps p s.1 + ps p y * ps p s.2
  d2 : ∃ x y, ps p b = ps p x * ps p s.1 + ps p y * ps p s.2
theorem lc_step {p : Int} (hp : Pm p) {a b : List Int} {s : List Int × List Int} (i : LcI p a b s) : LcI p a b (lcStep p s) ∧ (s.2 ≠ [] → (lcStep p s).2.length < s.2.length) := by
  unfold lcStep
  by_cases h : s.2 = []
  · rw [if_pos h]; exact ⟨i, fun z => absurd h z⟩
  · rw [if_neg h]
    obtain ⟨h1, h2⟩ := div_eq hp (a := s.1) h i.n2
    obtain ⟨u1, v1, e1⟩ := i.b1
    obtain ⟨u2, v2, e2⟩ := i.b2
    obtain ⟨x1, y1, f1⟩ := i.d1
    obtain ⟨x2, y2, f2⟩ := i.d2
    refine ⟨⟨i.n2, prem_nrm hp.pos, ⟨u2, v2, e2⟩, ⟨psub p u1 (pmul p (pquo p s.1 s.2) u2), psub p v1 (pmul p (pquo p s.1 s.2) v2), ?_⟩, ⟨padd p (pmul p x1 (pquo p s.1 s.2)) y1, x1, ?_⟩, ⟨padd p (pmul p x2 (pquo p s.1 s.2)) y2, x2, ?_⟩⟩, fun _ => h2⟩
    · simp only [ps_psub, ps_pmul]
      grind
    · simp only [ps_padd, ps_pmul]
      grind
    · simp only [ps_padd, ps_pmul]
      grind
theorem lc_fold {α : Type} {p : Int} (hp : Pm p) {a b : List Int} : ∀ (xs : List α) (s : List Int × List Int), LcI p a b s → s.2.length < xs.length + 1 → LcI p a b (xs.foldl (fun s _ => lcStep p s) s) ∧ (xs.foldl (fun s _ => lcStep p s) s).2 = []
  | [], s, i, h => ⟨i, List.length_eq_zero_iff.mp (by simpa using h)⟩
  | x :: xs, s, i, h => by
    rw [List.foldl_cons]
    obtain ⟨h1, h2⟩ := lc_step hp i
    refine lc_fold hp xs (lcStep p s) h1 ?_
    by_cases z : s.2 = []
    · have : lcStep p s = s := if_pos z
      rw [this, z]; simp
    · have := h2 z
      simp at h
      omega
theorem lc_ok {p : Int} (hp : Pm p) {a b : List Int} (na : Nrm p a) (nb : Nrm p b) : GcdU p a b (lcF p a b) := by
  have st : LcI p a b (a, b) := ⟨na, nb, ⟨[1], [], by rw [ps_one, ps_nil]; grind⟩, ⟨[], [1], by rw [ps_one, ps_nil]; grind⟩, ⟨[1], [], by rw [ps_one, ps_nil]; grind⟩, ⟨[], [1], by rw [ps_one, ps_nil]; grind⟩⟩
  obtain ⟨i, h⟩ := lc_fold hp (rangeI 0 (a.length + b.length + 1)) (a, b) st (by rw [rangeI_len]; show b.length < _; omega)
  unfold lcF
  generalize (rangeI 0 (a.length + b.length + 1)).foldl (fun s _ => lcStep p s) (a, b) = s at i h ⊢
  obtain ⟨x1, y1, f1⟩ := i.d1
  obtain ⟨x2, y2, f2⟩ := i.d2
  rw [h, ps_nil] at f1 f2
  have dv : ∀ (z x : List Int), ps p z = ps p x * ps p s.1 → Dvd p s.1 z := fun z x e => by
    obtain ⟨y, ny, hy⟩ := nrmz hp.pos x
    exact ⟨y, ny, by rw [hy, e]⟩
  refine ⟨i.n1, fun q z => ?_, dv a x1 (by rw [f1]; grind), dv b x2 (by rw [f2]; grind), i.b1⟩
  rw [z, ps_nil] at f1 f2
  rcases q with w | w
  · exact w ((ps_eq0 hp.pos na).mp (by rw [f1]; grind))
  · exact w ((ps_eq0 hp.pos nb).mp (by rw [f2]; grind))
structure CoOk (p : Int) (t s b g : List Int) : Prop where
  nr : Nrm p g
  ne : g ≠ []
  d1 : Dvd p g t
  d2 : Dvd p g s
  d3 : Dvd p g b
  bz : ∃ u v w, ps p g = ps p u * ps p t + ps p v * ps p s + ps p w * ps p b
def leastG (p : Int) (t s b c : List Int) : Tri :=
  (pscl p (pquo p t c) (pinv p (lastI (pquo p b c))), pscl p (pquo p s c) (pinv p (lastI (pquo p b c))), pscl p (pquo p b c) (pinv p (lastI (pquo p b c))))
theorem leastG_ok {p : Int} (hp : Pm p) {t s b c : List Int} (nt : Nrm p t) (ns : Nrm p s) (nb : Nrm p b) (hb : b ≠ []) (g : CoOk p t s b c) :
    LsOk p (leastG p t s b c) ∧ ∃ k : List Int, ps p k ≠ 0 ∧ ps p t = ps p k * ps p (leastG p t s b c).1 ∧ ps p s = ps p k * ps p (leastG p t s b c).2.1 ∧ ps p b = ps p k * ps p (leastG p t s b c).2.2 := by
  unfold leastG
  have e1 := (div_exact hp nt g.nr g.ne g.d1).1
  have e2 := (div_exact hp ns g.nr g.ne g.d2).1
  have e3 := (div_exact hp nb g.nr g.ne g.d3).1
  have q3 := quo_ne hp nb g.nr g.ne g.d3 hb
  have nq : Nrm p (pquo p b c) := pquo_nrm hp.pos
  have hm := nq.lmod q3
  have hC := inv_C hp hm
  generalize hI : pinv p (lastI (pquo p b c)) = I at hC ⊢
  obtain ⟨k1, k2, k3⟩ := pinv_mem hp hm
  rw [hI] at k1 k2 k3
  obtain ⟨u, v, w, hz⟩ := g.bz
  have n1 : Nrm p [I] := ⟨fun x hx => by simp at hx; omega, fun _ => by show I ≠ 0; omega⟩
  have eb : pscl p (pquo p b c) I = pmul p (pquo p b c) [I] := ps_inj hp.pos (trim_nrm hp.pos _) (trim_nrm hp.pos _) (by rw [ps_pscl, ps_pmul, cst]; grind)
  have pl := pmul_last hp nq n1 q3 (by simp)
  have hcn := ps_ne hp.pos g.nr g.ne
  refine ⟨⟨trim_nrm hp.pos _, trim_nrm hp.pos _, trim_nrm hp.pos _, ?_, ?_, ?_⟩, pscl p c (lastI (pquo p b c)), ?_, ?_, ?_, ?_⟩
  · show pscl p (pquo p b c) I ≠ []
    rw [eb]; exact pl.1
  · show lastI (pscl p (pquo p b c) I) = 1
    rw [eb, pl.2]
    show lastI (pquo p b c) * I % p = 1
    rw [Int.mul_comm, k3]
  · refine ⟨pscl p u (lastI (pquo p b c)), pscl p v (lastI (pquo p b c)), pscl p w (lastI (pquo p b c)), ?_⟩
    simp only [ps_pscl]
    have : ps p u * ps p (pquo p t c) + ps p v * ps p (pquo p s c) + ps p w * ps p (pquo p b c) = 1 := PS.cancel hp hcn (by
      rw [show (1 : PZ p) * ps p c = ps p c by grind]
      have : (ps p u * ps p (pquo p t c) + ps p v * ps p (pquo p s c) + ps p w * ps p (pquo p b c)) * ps p c = ps p u * (ps p (pquo p t c) * ps p c) + ps p v * (ps p (pquo p s c) * ps p c) + ps p w * (ps p (pquo p b c) * ps p c) := by grind
      rw [this, ← e1, ← e2, ← e3, hz])
    grind
  · rw [ps_pscl]
    intro z
    apply hcn
    have : ps p c = PS.C (ZM.mk p I) * (PS.C (ZM.mk p (lastI (pquo p b c))) * ps p c) := by grind
    rw [this, z]; grind
  · simp only [ps_pscl]; rw [e1]; grind
  · simp only [ps_pscl]; rw [e2]; grind
  · simp only [ps_pscl]; rw [e3]; grind
theorem leastG_eq {p : Int} (hp : Pm p) {t s b c : List Int} (nt : Nrm p t) (ns : Nrm p s) (nb : Nrm p b) (hb : b ≠ []) (g : CoOk p t s b c) : leastG p t s b c = leastT p t s b := by
  obtain ⟨ok, k, hk, k1, k2, k3⟩ := leastG_ok hp nt ns nb hb g
  refine (least_eq hp nt ns nb hb ok ?_ ?_).symm
  · rw [k1, k3]; grind
  · rw [k2, k3]; grind
/-- the law's common factor of the three -/
def lcT (p : Int) (t s b : List Int) : List Int := lcF p (lcF p b t) s
theorem lcT_ok {p : Int} (hp : Pm p) {t s b : List Int} (nt : Nrm p t) (ns : Nrm p s) (nb : Nrm p b) (hb : b ≠ []) : CoOk p t s b (lcT p t s b) := by
  have g1 := lc_ok hp nb nt
  have g2 := lc_ok hp g1.nr ns
  obtain ⟨u, v, h1⟩ := g1.bz
  obtain ⟨x, y, h2⟩ := g2.bz
  exact ⟨g2.nr, g2.ne (.inl (g1.ne (.inl hb))), g2.da.trans hp.pos g1.db, g2.db, g2.da.trans hp.pos g1.da, ⟨pmul p x v, y, pmul p x u, by
    unfold lcT
    rw [h2, h1, ps_pmul, ps_pmul]; grind⟩⟩
theorem lc_len {p : Int} (hp : Pm p) {a b : List Int} (na : Nrm p a) (nb : Nrm p b) : (lcF p a b).length ≤ max a.length b.length := by
  have g := lc_ok hp na nb
  by_cases ha : a = []
  · by_cases hb : b = []
    · subst ha hb; simp [lcF, lcStep, rangeI]
    · have := dvd_len hp nb g.nr hb g.db; omega
  · have := dvd_len hp na g.nr ha g.da; omega
theorem cut_last (l : List Int) : cutD (l.map D.int) none (some (-1)) = (l.dropLast).map D.int := by
  unfold cutD
  rw [HT.sIx_none]
  have : HT.sIx (l.map D.int).length (l.map D.int).length (some (-1)) = (l.map D.int).length - 1 := by
    unfold HT.sIx
    simp
    omega
  rw [this, List.map_dropLast, List.drop_zero, Nat.sub_zero, ← List.dropLast_eq_take]
theorem lr_inv {α : Type} {p back : Int} {b : List Int} (hp : 0 < p) (hb : b ≠ []) : ∀ (xs : List α) (l : List Int), Nrm p l → Nrm p (xs.foldl (fun l _ => lrStep p back b l) l) ∧ (xs.foldl (fun l _ => lrStep p back b l) l).length ≤ l.length
  | [], l, n => ⟨n, Nat.le_refl _⟩
  | x :: xs, l, n => by
    rw [List.foldl_cons]
    have h : Nrm p (lrStep p back b l) ∧ (lrStep p back b l).length ≤ l.length := by
      unfold lrStep
      by_cases hl : b.length ≤ l.length
      · rw [if_pos hl]
        have hbl := List.length_pos_iff.mpr hb
        refine ⟨trim_nrm hp _, Nat.le_trans padd_len (Nat.max_le.mpr ⟨Nat.le_refl _, Nat.le_trans pscl_len ?_⟩)⟩
        have := pmul_len2 hp (a := lrBy back b l) (b := b)
        have e : (lrBy back b l).length = l.length - b.length + 1 := by unfold lrBy; simp
        omega
      · rw [if_neg hl]; exact ⟨n, Nat.le_refl _⟩
    obtain ⟨i1, i2⟩ := lr_inv hp hb xs (lrStep p back b l) h.1
    exact ⟨i1, Nat.le_trans i2 h.2⟩
theorem lrBy_sm {back : Int} {b l : List Int} (h0 : 0 ≤ lastI l * back) (h1 : lastI l * back ≤ 13 * 13) : Sm (lrBy back b l) := fun x hx => by
  unfold lrBy at hx
  rcases List.mem_append.mp hx with h | h
  · have := (List.mem_replicate.mp h).2
    omega
  · simp at h
    omega
theorem lwBy_sm {p back : Int} {b l : List Int} (hp : 0 < p) (hl : p ≤ 13) : Sm (lwBy p back b l) := fun x hx => by
  unfold lwBy at hx
  rcases List.mem_append.mp hx with h | h
  · have := (List.mem_replicate.mp h).2
    omega
  · simp at h
    have := Int.emod_nonneg (lastI l * back) (b := p) (by omega)
    have := Int.emod_lt_of_pos (lastI l * back) hp
    omega
theorem lw_inv {α : Type} {p back : Int} {b : List Int} (hp : 0 < p) (hb : b ≠ []) (N : Nat) : ∀ (xs : List α) (s : List Int × List Int), Nrm p s.1 → s.1.length ≤ N → s.2.length ≤ N → Nrm p (xs.foldl (fun s _ => lwStep p back b s) s).1 ∧ (xs.foldl (fun s _ => lwStep p back b s) s).1.length ≤ N ∧ (xs.foldl (fun s _ => lwStep p back b s) s).2.length ≤ N
  | [], s, n, h1, h2 => ⟨n, h1, h2⟩
  | x :: xs, s, n, h1, h2 => by
    rw [List.foldl_cons]
    have h : Nrm p (lwStep p back b s).1 ∧ (lwStep p back b s).1.length ≤ N ∧ (lwStep p back b s).2.length ≤ N := by
      unfold lwStep
      by_cases hl : b.length ≤ s.1.length
      · rw [if_pos hl]
        have hbl := List.length_pos_iff.mpr hb
        have e : (lwBy p back b s.1).length = s.1.length - b.length + 1 := by unfold lwBy; simp
        have := pmul_len2 hp (a := lwBy p back b s.1) (b := b)
        refine ⟨trim_nrm hp _, Nat.le_trans padd_len (Nat.max_le.mpr ⟨h1, Nat.le_trans pscl_len (by omega)⟩), Nat.le_trans padd_len (Nat.max_le.mpr ⟨h2, by omega⟩)⟩
      · rw [if_neg hl]; exact ⟨n, h1, h2⟩
    exact lw_inv hp hb N xs (lwStep p back b s) h.1 h.2.1 h.2.2
theorem lc_inv {α : Type} {p : Int} (hp : Pm p) (N : Nat) : ∀ (xs : List α) (s : List Int × List Int), Nrm p s.1 → Nrm p s.2 → s.1.length ≤ N → s.2.length ≤ N → Nrm p (xs.foldl (fun s _ => lcStep p s) s).1 ∧ Nrm p (xs.foldl (fun s _ => lcStep p s) s).2 ∧ (xs.foldl (fun s _ => lcStep p s) s).1.length ≤ N ∧ (xs.foldl (fun s _ => lcStep p s) s).2.length ≤ N
  | [], s, n1, n2, h1, h2 => ⟨n1, n2, h1, h2⟩
  | x :: xs, s, n1, n2, h1, h2 => by
    rw [List.foldl_cons]
    have h : Nrm p (lcStep p s).1 ∧ Nrm p (lcStep p s).2 ∧ (lcStep p s).1.length ≤ N ∧ (lcStep p s).2.length ≤ N := by
      unfold lcStep
      by_cases z : s.2 = []
      · rw [if_pos z]; exact ⟨n1, n2, h1, h2⟩
      · rw [if_neg z]; exact ⟨n2, prem_nrm hp.pos, h2, Nat.le_trans prem_len h1⟩
    exact lc_inv hp N xs (lcStep p s) h.1 h.2.1 h.2.2.1 h.2.2.2
end Cw
set_option maxHeartbeats 4000000
namespace Cw
open PySem PySem.Spec PyProof.Rows L2
/-! ### the promises of the law's helpers -/
def toldD (c : Cur) : D := .tup [.int c.1, inD c.2]
def lawHash (s i : Int) : Int := ((s * 1140671 + 27644437 * i * i + 131 * i + 19) % 2147483629 * ((s * 1140671 + 27644437 * i * i + 131 * i + 19) % 2147483629) + 62089 * i + 32416187) % 2147483587 * 48271 % 2147483647
def p__law_hash (ds : List D) (d : D) : Prop := ∃ s i, ds = [.int s, .int i] ∧ (0 ≤ s ∧ s < 2 ^ 32 ∧ 0 ≤ i ∧ i < 2 ^ 32) ∧ d = .int (lawHash s i)
def p__law_cell (ds : List D) (d : D) : Prop := ∃ (ns : List Int) (i : Int), ds = [.scr ns, .int i] ∧ (i = 0) ∧ d = .int (ns.headD 0)
def p__law_trim (ds : List D) (d : D) : Prop := ∃ p ns, ds = [.int p, inD ns] ∧ 0 < p ∧ ns.length ≤ 2 * LM ∧ d = inD (trim p ns)
def p__law_add (ds : List D) (d : D) : Prop := p_added ds d
def p__law_scale (ds : List D) (d : D) : Prop := p_scaled ds d
def p__law_mul (ds : List D) (d : D) : Prop := p_multiplied ds d
def p__law_power (ds : List D) (d : D) : Prop := p_power_of ds d
def p__law_back (ds : List D) (d : D) : Prop := p_inverse ds d
def p__law_rest (ds : List D) (d : D) : Prop := ∃ p a b, ds = [.int p, inD a, inD b] ∧ (Pm p ∧ a.length ≤ 200000 ∧ b.length ≤ 200000 ∧ b ≠ [] ∧ Nrm p b ∧ Nrm p a) ∧ d = inD (prem p a b)
def p__law_whole (ds : List D) (d : D) : Prop := ∃ p a b, ds = [.int p, inD a, inD b] ∧ (Pm p ∧ a.length ≤ 200000 ∧ b.length ≤ 200000 ∧ b ≠ [] ∧ Nrm p b ∧ Nrm p a) ∧ d = inD (pquo p a b)
def p__law_common (ds : List D) (d : D) : Prop := ∃ p a b, ds = [.int p, inD a, inD b] ∧ (Pm p ∧ a.length ≤ 200000 ∧ b.length ≤ 200000 ∧ Nrm p a ∧ Nrm p b) ∧ d = inD (lcF p a b)
def p__law_fall (ds : List D) (d : D) : Prop := p_slope_of ds d
def p__law_of (K : Fg) (ds : List D) (d : D) : Prop := ∃ c, ds = [toldD c] ∧ CvOk c ∧ d = cvD K c
structure TrIn (c : Cur) (T : Tri) (n : Nat) : Prop where
  n1 : Nrm c.1 T.1
  n2 : Nrm c.1 T.2.1
  n3 : Nrm c.1 T.2.2
  ne : T.2.2 ≠ []
  sz : Sz n T
def p__law_made (K : Fg) (ds : List D) (d : D) : Prop := ∃ c T, ds = [toldD c, triD T] ∧ (CvOk c ∧ TrIn c T 61) ∧ d = fnD K c (leastT c.1 T.1 T.2.1 T.2.2)
def p__law_seen (K : Fg) (ds : List D) (d : D) : Prop := ∃ c T, ds = [fnD K c T] ∧ True ∧ d = triD T
def p__law_nought (ds : List D) (d : D) : Prop := ∃ T : Tri, ds = [triD T] ∧ True ∧ d = .bl (decide (nought T))
def p__law_same (ds : List D) (d : D) : Prop := ∃ (c : Cur) (T U : Tri), ds = [toldD c, triD T, triD U] ∧ (Pm c.1 ∧ Nrm c.1 T.1 ∧ Nrm c.1 T.2.1 ∧ Nrm c.1 U.1 ∧ Nrm c.1 U.2.1 ∧ Sz 100000 T ∧ Sz 100000 U) ∧ d = .bl (decide (pmul c.1 T.1 U.2.2 = pmul c.1 U.1 T.2.2) && decide (pmul c.1 T.2.1 U.2.2 = pmul c.1 U.2.1 T.2.2))
def p__law_least (ds : List D) (d : D) : Prop := ∃ c T, ds = [toldD c, triD T] ∧ (Pm c.1 ∧ TrIn c T 200000) ∧ d = triD (leastT c.1 T.1 T.2.1 T.2.2)
def p__law_slope (ds : List D) (d : D) : Prop := ∃ c T, ds = [toldD c, triD T] ∧ (CvOk c ∧ FnIn c T 10000) ∧ d = triD (fSlope c T)
def p__law_parts (ds : List D) (d : D) : Prop := ∃ c T, ds = [toldD c, triD T] ∧ (CvOk c ∧ FnIn c T 3000) ∧ d = lsD triD (fParts c T)
section
variable {K : Fg} {G : Ctx} {ta tb : TE} {tl th : TO} {ns : List Int}
theorem ev_lenS (h : EvD K ta G (.scr ns)) : EvD K (tCB (fun xs H Q => ∃ p ys, xs = [V.ref p] ∧ (SqL K H p ys ∨ SqT K H p ys) ∧ Q (.int ys.length) H) (tCons ta tNil)) G (.int ns.length) := ev_cb (ea1 h) fun F H vs s hx Q q => by
  obtain ⟨v, r, rfl, h1, h2⟩ := hx
  cases h2
  obtain ⟨p, rfl, h3⟩ := h1
  exact ⟨p, _, rfl, .inl (sqL_mono s h3), q _ F H (Step.refl s) (by show V.int _ = V.int _; rw [List.length_map])⟩
theorem ev_ixS {j : Int} (h0 : 0 ≤ j) (hj : j < ns.length) (ha : EvD K ta G (.scr ns)) (hb : EvD K tb G (.int j)) : EvD K (tOp (rIxL K) ta tb) G (.int (cf ns j.toNat)) := ev_op ha hb fun F H x y s hx hy Q q => by
  obtain ⟨p, rfl, h1⟩ := hx
  cases hy
  refine ⟨p, _, j, .int (cf ns j.toNat), rfl, rfl, sqL_mono s h1, ?_, q _ F H (Step.refl s) rfl⟩
  obtain ⟨k, rfl⟩ : ∃ k : Nat, j = (k : Int) := ⟨j.toNat, by omega⟩
  rw [Int.toNat_natCast]
  refine atI_nat ?_
  rw [List.getElem?_map, cf_get (by omega)]
  rfl
theorem en_sliceS {lo hi : Option Int} (h : EvD K ta G (.scr ns)) (h1 : EvO K tl G lo) (h2 : EvO K th G hi) : EvN K (tSl (rSlL K) ta tl th) G (((ns.drop (HT.sIx ns.length 0 lo)).take (HT.sIx ns.length ns.length hi - HT.sIx ns.length 0 lo)).map D.int) := fun F0 H0 F H σ s Q q =>
  h F0 H0 F H σ s _ fun v F1 H1 t1 r1 => h1 F0 H0 F1 H1 σ (s.step t1) _ fun F2 H2 t2 => h2 F0 H0 F2 H2 σ ((s.step t1).step t2) _ fun F3 H3 t3 => by
    obtain ⟨p, rfl, h3⟩ := r1
    have t := t2.trans t3
    refine ⟨p, _, rfl, sqL_mono t.hh (sqL_mono t1.fh h3), fun l hl => q l _ F3 _ ((t1.trans t).trans (Step.newP t3.fh hl)) ((t1.trans t).hh.free hl) (t3.fh.free hl) upd_same ?_⟩
    unfold cutV
    rw [List.length_map, ← List.map_drop, ← List.map_take]
    exact Reps.ofInts
end
end Cw
set_option maxHeartbeats 4000000
namespace Cw
open Lean.Grind
/-! ### the derivative -/
namespace PS
variable {p : Int}
/-- x * d/dx -/
def th (u : PZ p) : PZ p := fun k => ZM.mk p k * u k
def Der (u : PZ p) : PZ p := fun k => ZM.mk p ((k + 1 : Nat) : Int) * u (k + 1)
theorem th_at (u : PZ p) (k : Nat) : th u k = ZM.mk p k * u k := rfl
theorem Der_at (u : PZ p) (k : Nat) : Der u k = ZM.mk p ((k + 1 : Nat) : Int) * u (k + 1) := rfl
theorem Der_sh (u : PZ p) : Der u = sh (th u) := rfl
theorem mkS (k : Nat) : ZM.mk p ((k + 1 : Nat) : Int) = ZM.mk p (k : Int) + 1 := by
  rw [← ZM.mk_one, ZM.mk_add]; rfl
theorem sh_th (u : PZ p) : sh (th u) = th (sh u) + sh u := PS.ext fun k => by
  rw [add_at, sh_at, th_at, th_at, sh_at, mkS]; grind
theorem th_mul' : ∀ (n : Nat) (u v : PZ p), th (u * v) n = (th u * v) n + (u * th v) n
  | 0, u, v => by
    have z : ZM.mk p ((0 : Nat) : Int) = 0 := rfl
    rw [th_at, mul_at0, mul_at0, mul_at0, th_at, th_at, z]; grind
  | n + 1, u, v => by
    have i := th_mul' n (sh u) v
    rw [th_at] at i
    rw [th_at, mul_atS, mul_atS, mul_atS, sh_th, add_mul', th_at, th_at, mkS]
    have z : ZM.mk p ((0 : Nat) : Int) = 0 := rfl
    rw [z]
    have e : (sh u * th v) n = ZM.mk p (n : Int) * (sh u * v) n - (th (sh u) * v) n := by rw [i]; grind
    rw [e]
    grind
theorem th_mul (u v : PZ p) : th (u * v) = th u * v + u * th v := PS.ext fun n => th_mul' n u v
theorem sh_mul0 (u v : PZ p) (h : u 0 = 0) : sh (u * v) = sh u * v := PS.ext fun n => by
  rw [sh_at, mul_atS, h]; grind
theorem Der_mul (u v : PZ p) : Der (u * v) = Der u * v + u * Der v := by
  have h0 : ∀ w : PZ p, th w 0 = 0 := fun w => by
    rw [th_at]
    have z : ZM.mk p ((0 : Nat) : Int) = 0 := rfl
    rw [z]; grind
  rw [Der_sh, Der_sh, Der_sh, th_mul]
  have e : sh (th u * v + u * th v) = sh (th u * v) + sh (th v * u) := by
    rw [show u * th v = th v * u by grind]; rfl
  rw [e, sh_mul0 _ _ (h0 u), sh_mul0 _ _ (h0 v)]; grind
theorem Der_add (u v : PZ p) : Der (u + v) = Der u + Der v := PS.ext fun k => by
  rw [add_at, Der_at, Der_at, Der_at, add_at]; grind
theorem Der_one : Der (1 : PZ p) = 0 := PS.ext fun k => by
  rw [Der_at, one_at, if_neg (by omega), zero_at]; grind
/-! ### p-th powers -/
/-- v(x ^ q) -/
def Fr {R : Type} [CommRing R] (q : Nat) (v : PS R) : PS R := fun k => if k % q = 0 then v (k / q) else 0
/-- the numbers at i, i + q, .. -/
def Ev {R : Type} [CommRing R] (q i : Nat) (u : PS R) : PS R := fun k => u (i + q * k)
end PS
theorem char_of {p : Int} {n : Nat} (hp : p = (n : Int)) (x y : Nat) : (OfNat.ofNat x : PZ p) = OfNat.ofNat y ↔ x % n = y % n := by
  constructor
  · intro h
    have h0 : ZM.mk p (x : Int) = ZM.mk p (y : Int) := congrFun h 0
    have h1 := ZM.exact h0
    rw [hp, ← Int.natCast_emod, ← Int.natCast_emod] at h1
    exact Int.ofNat.inj h1
  · intro h
    have : ZM.mk p (x : Int) = ZM.mk p (y : Int) := ZM.sound (by rw [hp, ← Int.natCast_emod, ← Int.natCast_emod, h])
    exact congrArg PS.C this
instance char3 : IsCharP (PS (ZM 3)) 3 := ⟨fun {x y} => char_of rfl x y⟩
instance char5 : IsCharP (PS (ZM 5)) 5 := ⟨fun {x y} => char_of rfl x y⟩
instance char7 : IsCharP (PS (ZM 7)) 7 := ⟨fun {x y} => char_of rfl x y⟩
instance char11 : IsCharP (PS (ZM 11)) 11 := ⟨fun {x y} => char_of rfl x y⟩
instance char13 : IsCharP (PS (ZM 13)) 13 := ⟨fun {x y} => char_of rfl x y⟩
theorem add3 (a b : PS (ZM 3)) : (a + b) ^ 3 = a ^ 3 + b ^ 3 := by grind
theorem add5 (a b : PS (ZM 5)) : (a + b) ^ 5 = a ^ 5 + b ^ 5 := by grind
theorem add7 (a b : PS (ZM 7)) : (a + b) ^ 7 = a ^ 7 + b ^ 7 := by grind
theorem add11 (a b : PS (ZM 11)) : (a + b) ^ 11 = a ^ 11 + b ^ 11 := by grind
theorem add13 (a b : PS (ZM 13)) : (a + b) ^ 13 = a ^ 13 + b ^ 13 := by grind
theorem add_pow {p : Int} (hp : Pm p) (a b : PZ p) : (a + b) ^ p.toNat = a ^ p.toNat + b ^ p.toNat := by
  rcases hp with rfl | rfl | rfl | rfl | rfl
  · exact add3 a b
  · exact add5 a b
  · exact add7 a b
  · exact add11 a b
  · exact add13 a b
namespace PS
variable {p : Int}
theorem mul_pow' (a b : PZ p) : ∀ n : Nat, (a * b) ^ n = a ^ n * b ^ n
  | 0 => by rw [Semiring.pow_zero, Semiring.pow_zero, Semiring.pow_zero]; grind
  | n + 1 => by rw [Semiring.pow_succ, Semiring.pow_succ, Semiring.pow_succ, mul_pow' a b n]; grind
theorem X_pow : ∀ n : Nat, (X 1 : PZ p) ^ n = X n
  | 0 => by rw [Semiring.pow_zero]; rfl
  | n + 1 => by rw [Semiring.pow_succ, X_pow n, X_add]
theorem C_pow (a : Int) : ∀ n : Nat, (C (ZM.mk p a) : PZ p) ^ n = C (ZM.mk p (a ^ n))
  | 0 => by rw [Semiring.pow_zero, Int.pow_zero]; rfl
  | n + 1 => by rw [Semiring.pow_succ, C_pow a n, ← C_mulC, ZM.mk_mul, Int.pow_succ]
theorem split (v : PZ p) : v = C (v 0) + X 1 * sh v := PS.ext fun k => by
  rw [add_at, X_mul]
  cases k with
  | zero => rw [C_0, if_neg (by omega)]; grind
  | succ k => rw [C_S, if_pos (by omega), Nat.add_sub_cancel, sh_at]; grind
end PS
theorem fermat {p : Int} (hp : Pm p) (a : Int) : a ^ p.toNat % p = a % p := by
  have key : ∀ n : Nat, a ^ n % p = (a % p) ^ n % p := by
    intro n
    induction n with
    | zero => rw [Int.pow_zero, Int.pow_zero]
    | succ n ih => rw [Int.pow_succ, Int.pow_succ, Int.mul_emod, ih, Int.mul_emod ((a % p) ^ n) (a % p), Int.emod_emod_of_dvd _ (Int.dvd_refl p)]
  rw [key]
  have h0 := Int.emod_nonneg a (b := p) (by have := hp.pos; omega)
  have h1 := Int.emod_lt_of_pos a hp.pos
  generalize a % p = r at h0 h1 ⊢
  have h3 : r = 0 ∨ r = 1 ∨ r = 2 ∨ r = 3 ∨ r = 4 ∨ r = 5 ∨ r = 6 ∨ r = 7 ∨ r = 8 ∨ r = 9 ∨ r = 10 ∨ r = 11 ∨ r = 12 := by
    have := hp.le
    omega
  rcases hp with rfl | rfl | rfl | rfl | rfl <;> rcases h3 with rfl | rfl | rfl | rfl | rfl | rfl | rfl | rfl | rfl | rfl | rfl | rfl | rfl <;> first
    | omega
    | decide
namespace PS
variable {p : Int}
theorem C_fermat (hp : Pm p) (c : ZM p) : (C c : PZ p) ^ p.toNat = C c := by
  induction c using ZM.ind with
  | h a => rw [C_pow, show ZM.mk p (a ^ p.toNat) = ZM.mk p a from ZM.sound (fermat hp a)]
/-- the p-th power of a series -/
theorem frob (hp : Pm p) : ∀ (k : Nat) (v : PZ p), (v ^ p.toNat) k = Fr p.toNat v k := by
  intro k
  induction k using Nat.strongRecOn with
  | ind k ih =>
    intro v
    have hpg := hp.ge
    have e : v ^ p.toNat = C (v 0) + X p.toNat * sh v ^ p.toNat := by
      rw [show v ^ p.toNat = (C (v 0) + X 1 * sh v) ^ p.toNat by rw [← split], add_pow hp, C_fermat hp, mul_pow', X_pow]
    rw [e, add_at, X_mul]
    show _ = if k % p.toNat = 0 then v (k / p.toNat) else 0
    by_cases hk : p.toNat ≤ k
    · rw [if_pos hk, ih (k - p.toNat) (by omega)]
      show _ + (if (k - p.toNat) % p.toNat = 0 then sh v ((k - p.toNat) / p.toNat) else 0) = _
      have e1 : (k - p.toNat) % p.toNat = k % p.toNat := by
        rw [Nat.mod_eq_sub_mod hk]
      have e2 : k / p.toNat = (k - p.toNat) / p.toNat + 1 := Nat.div_eq_sub_div (by omega) hk
      rw [e1, e2]
      obtain ⟨j, rfl⟩ : ∃ j, k = j + 1 := ⟨k - 1, by omega⟩
      rw [C_S, sh_at]; grind
    · rw [if_neg hk]
      by_cases h0 : k = 0
      · subst h0
        rw [C_0, Nat.zero_mod, if_pos rfl, Nat.zero_div]; grind
      · obtain ⟨j, rfl⟩ : ∃ j, k = j + 1 := ⟨k - 1, by omega⟩
        rw [C_S, Nat.mod_eq_of_lt (by omega), if_neg (by omega)]; grind
theorem pow_fr (hp : Pm p) (v : PZ p) : v ^ p.toNat = Fr p.toNat v := PS.ext fun k => frob hp k v
theorem Der_fr (hp : Pm p) (v : PZ p) : Der (Fr p.toNat v) = 0 := PS.ext fun k => by
  have hpg := hp.ge
  rw [Der_at, zero_at]
  show _ * (if (k + 1) % p.toNat = 0 then v ((k + 1) / p.toNat) else 0) = 0
  by_cases h : (k + 1) % p.toNat = 0
  · rw [if_pos h, show ZM.mk p ((k + 1 : Nat) : Int) = 0 from ZM.eq_zero.mpr (by
      obtain ⟨q, hq⟩ : ∃ q : Nat, p = (q : Int) := ⟨p.toNat, by omega⟩
      subst hq
      rw [Int.toNat_natCast] at h
      rw [← Int.natCast_emod, h]; rfl)]
    grind
  · rw [if_neg h]; grind
theorem Der_pow (hp : Pm p) (v : PZ p) : Der (v ^ p.toNat) = 0 := by rw [pow_fr hp, Der_fr hp]
theorem Fr_split {q : Nat} (hq : 0 < q) (v : PZ p) : Fr q v = C (v 0) + X q * Fr q (sh v) := PS.ext fun k => by
  rw [add_at, X_mul]
  show (if k % q = 0 then v (k / q) else 0) = _ + if q ≤ k then (if (k - q) % q = 0 then sh v ((k - q) / q) else 0) else 0
  by_cases hk : q ≤ k
  · rw [if_pos hk, ← Nat.mod_eq_sub_mod hk, Nat.div_eq_sub_div hq hk]
    obtain ⟨j, rfl⟩ : ∃ j, k = j + 1 := ⟨k - 1, by omega⟩
    rw [C_S, sh_at]; grind
  · rw [if_neg hk]
    by_cases h0 : k = 0
    · subst h0
      rw [C_0, Nat.zero_mod, if_pos rfl, Nat.zero_div]; grind
    · obtain ⟨j, rfl⟩ : ∃ j, k = j + 1 := ⟨k - 1, by omega⟩
      rw [C_S, Nat.mod_eq_of_lt (by omega), if_neg (by omega)]; grind
/-- numbers at i, i + q, .. of u * v(x ^ q) -/
theorem Ev_fr' {q i : Nat} (hi : i < q) (u : PZ p) : ∀ (k : Nat) (v : PZ p), (u * Fr q v) (i + q * k) = (Ev q i u * v) k := by
  have e : ∀ v : PZ p, u * Fr q v = C (v 0) * u + X q * (u * Fr q (sh v)) := fun v => by
    rw [Fr_split (by omega) v]; grind
  intro k
  induction k with
  | zero =>
    intro v
    rw [e, add_at, C_mul, X_mul, if_neg (by omega), mul_at0]
    show _ = u (i + q * 0) * v 0
    grind
  | succ k ih =>
    intro v
    rw [e, add_at, C_mul, X_mul, Nat.mul_succ, if_pos (by omega), show i + (q * k + q) - q = i + q * k by omega, ih (sh v), mul_atS']
    show _ = u (i + q * (k + 1)) * v 0 + _
    rw [Nat.mul_succ]; grind
theorem Ev_fr {q i : Nat} (hi : i < q) (u v : PZ p) : Ev q i (u * Fr q v) = Ev q i u * v := PS.ext fun k => Ev_fr' hi u k v
theorem Ev_add {q i : Nat} (u v : PZ p) : Ev q i (u + v) = Ev q i u + Ev q i v := rfl
theorem Ev_sub {q i : Nat} (u v : PZ p) : Ev q i (u - v) = Ev q i u - Ev q i v := rfl
/-- what a slope lacks -/
theorem Ev_Der (hp : Pm p) (u : PZ p) : Ev p.toNat (p.toNat - 1) (Der u) = 0 := PS.ext fun k => by
  have hpg := hp.ge
  rw [zero_at]
  show ZM.mk p ((p.toNat - 1 + p.toNat * k + 1 : Nat) : Int) * _ = 0
  rw [show ZM.mk p ((p.toNat - 1 + p.toNat * k + 1 : Nat) : Int) = 0 from ZM.eq_zero.mpr (by
    obtain ⟨q, hq⟩ : ∃ q : Nat, p = (q : Int) := ⟨p.toNat, by omega⟩
    subst hq
    rw [Int.toNat_natCast, show q - 1 + q * k + 1 = q * (k + 1) by rw [Nat.mul_succ]; omega]
    rw [← Int.natCast_emod, Nat.mul_mod_right]; rfl)]
  grind
/-- the source -/
def In (p : Int) (iv : Int → Int) (u : PZ p) : PZ p := fun k => if k = 0 then 0 else if k % p.toNat = 0 then 0 else ZM.mk p (iv ((k : Int) % p)) * u (k - 1)
end PS
theorem inv_mk {p : Int} (hp : Pm p) {k : Nat} (h : k % p.toNat ≠ 0) : ZM.mk p (pinv p ((k : Int) % p)) * ZM.mk p (k : Int) = 1 := by
  have hpg := hp.ge
  have h1 : (k : Int) % p ≠ 0 := by
    obtain ⟨q, hq⟩ : ∃ q : Nat, p = (q : Int) := ⟨p.toNat, by omega⟩
    subst hq
    rw [Int.toNat_natCast] at h
    rw [← Int.natCast_emod]; omega
  obtain ⟨k1, k2, k3⟩ := pinv_mem hp (n := (k : Int) % p) (by rw [Int.emod_emod_of_dvd _ (Int.dvd_refl p)]; exact h1)
  rw [ZM.mk_mul, ← ZM.mk_one]
  apply ZM.sound
  rw [Int.mul_emod, Int.emod_emod_of_dvd _ (Int.dvd_refl p)] at k3
  rw [Int.mul_emod, k3]
  exact (Int.emod_eq_of_lt (by omega) (by omega)).symm
namespace PS
variable {p : Int}
abbrev J (p : Int) (u : PZ p) : PZ p := In p (pinv p) u
theorem Der_J (hp : Pm p) (u : PZ p) (h : Ev p.toNat (p.toNat - 1) u = 0) : Der (J p u) = u := PS.ext fun k => by
  have hpg := hp.ge
  rw [Der_at]
  show _ * (if k + 1 = 0 then 0 else if (k + 1) % p.toNat = 0 then 0 else ZM.mk p (pinv p (((k + 1 : Nat) : Int) % p)) * u k) = _
  rw [if_neg (by omega)]
  by_cases hk : (k + 1) % p.toNat = 0
  · rw [if_pos hk]
    have h1 : u k = 0 := by
      have := congrFun h (k / p.toNat)
      rw [zero_at] at this
      have e : p.toNat - 1 + p.toNat * (k / p.toNat) = k := by
        have h2 := Nat.mod_add_div k p.toNat
        have h3 : k % p.toNat = p.toNat - 1 := by
          have h4 := Nat.mod_add_div (k + 1) p.toNat
          have h5 := Nat.mod_lt k (show 0 < p.toNat by omega)
          rw [hk, Nat.zero_add] at h4
          have h6 : k + 1 = p.toNat * (k / p.toNat) + (k % p.toNat + 1) := by omega
          have h7 : (k % p.toNat + 1) % p.toNat = 0 := by
            have := hk
            rw [h6, Nat.mul_add_mod] at this
            exact this
          by_cases h8 : k % p.toNat + 1 < p.toNat
          · rw [Nat.mod_eq_of_lt h8] at h7; omega
          · omega
        omega
      have t : Ev p.toNat (p.toNat - 1) u (k / p.toNat) = u (p.toNat - 1 + p.toNat * (k / p.toNat)) := rfl
      rw [t, e] at this
      exact this
    rw [h1]; grind
  · rw [if_neg hk]
    have := inv_mk hp hk
    grind
theorem Ev_J (hp : Pm p) (u : PZ p) : Ev p.toNat 0 (J p u) = 0 := PS.ext fun k => by
  rw [zero_at]
  show (if 0 + p.toNat * k = 0 then (0 : ZM p) else if (0 + p.toNat * k) % p.toNat = 0 then 0 else _) = 0
  by_cases h : 0 + p.toNat * k = 0
  · rw [if_pos h]
  · rw [if_neg h, if_pos (by rw [Nat.zero_add, Nat.mul_mod_right])]
theorem J_Der (hp : Pm p) (u : PZ p) : J p (Der u) = u - Fr p.toNat (Ev p.toNat 0 u) := PS.ext fun k => by
  have hpg := hp.ge
  rw [sub_at]
  show (if k = 0 then 0 else if k % p.toNat = 0 then 0 else ZM.mk p (pinv p ((k : Int) % p)) * (ZM.mk p ((k - 1 + 1 : Nat) : Int) * u (k - 1 + 1))) = u k - if k % p.toNat = 0 then u (0 + p.toNat * (k / p.toNat)) else 0
  by_cases h0 : k = 0
  · subst h0
    rw [if_pos rfl, Nat.zero_mod, if_pos rfl, Nat.zero_div]
    simp only [Nat.mul_zero, Nat.add_zero]
    grind
  · rw [if_neg h0]
    by_cases h : k % p.toNat = 0
    · have := Nat.mod_add_div k p.toNat
      rw [if_pos h, if_pos h, show 0 + p.toNat * (k / p.toNat) = k by omega]; grind
    · rw [if_neg h, if_neg h, show k - 1 + 1 = k by omega]
      have := inv_mk hp h
      grind
end PS
end Cw
set_option maxHeartbeats 4000000
namespace Cw
open Lean.Grind
section
variable {p : Int}
theorem anti_uniq (hp : Pm p) {u v : PZ p} (h : PS.Der u = PS.Der v) (h0 : PS.Ev p.toNat 0 u = PS.Ev p.toNat 0 v) : u = v := PS.ext fun k => by
  have hpg := hp.ge
  by_cases hk : k % p.toNat = 0
  · have e : PS.Ev p.toNat 0 u (k / p.toNat) = PS.Ev p.toNat 0 v (k / p.toNat) := by rw [h0]
    have e2 : ∀ w : PZ p, PS.Ev p.toNat 0 w (k / p.toNat) = w (0 + p.toNat * (k / p.toNat)) := fun _ => rfl
    have := Nat.mod_add_div k p.toNat
    rw [e2, e2, show 0 + p.toNat * (k / p.toNat) = k by omega] at e
    exact e
  · have e : PS.Der u (k - 1) = PS.Der v (k - 1) := by rw [h]
    have hk0 : k ≠ 0 := fun z => hk (by rw [z, Nat.zero_mod])
    rw [PS.Der_at, PS.Der_at, show k - 1 + 1 = k by omega] at e
    have i := inv_mk hp hk
    have : u k = ZM.mk p (pinv p ((k : Int) % p)) * (ZM.mk p (k : Int) * u k) := by grind
    rw [this, e]; grind
theorem cf_tail (l : List Int) (k : Nat) : cf l.tail k = cf l (k + 1) := by
  cases l with
  | nil => rfl
  | cons x r => rfl
theorem cf_enum (l : List Int) (k : Nat) : cf ((enumI l).map fun q : Int × Int => q.1 * q.2) k = (k : Int) * cf l k := by
  unfold enumI
  by_cases h : k < l.length
  · have h1 : cf (List.map (fun q : Int × Int => q.1 * q.2) (List.mapIdx (fun i a => ((i : Int), a)) l)) k = (k : Int) * l[k] := by
      unfold cf
      rw [List.getD_eq_getElem?_getD, List.getElem?_map, List.getElem?_mapIdx, List.getElem?_eq_getElem h]
      rfl
    have h2 := cf_get h
    rw [List.getElem?_eq_getElem h] at h2
    rw [h1, Option.some.inj h2]
  · rw [cf_out (by simp; omega), cf_out (by omega), Int.mul_zero]
theorem ps_pder {l : List Int} : ps p (pder p l) = PS.Der (ps p l) := PS.ext fun k => by
  unfold pder
  rw [ps_trim, ps_at, cf_tail, cf_enum, PS.Der_at, ps_at, ZM.mk_mul]
theorem ps_every (hp : 0 < p) {l : List Int} (i : Nat) : ps p (pEvery p l (i : Int)) = PS.Ev p.toNat i (ps p l) := PS.ext fun k => by
  unfold pEvery
  rw [ps_trim, ps_at]
  obtain ⟨q, rfl⟩ : ∃ q : Nat, p = (q : Int) := ⟨p.toNat, by omega⟩
  rw [pick_cf (by omega)]
  rfl
theorem ps_stretch (hp : 0 < p) {l : List Int} : ps p (pStretch p l) = PS.Fr p.toNat (ps p l) := PS.ext fun k => by
  obtain ⟨q, rfl⟩ : ∃ q : Nat, p = (q : Int) := ⟨p.toNat, by omega⟩
  rw [ps_at, cf_stretch (by omega), Int.toNat_natCast]
  show _ = if k % q = 0 then ps _ l (k / q) else 0
  split
  · rfl
  · rfl
theorem cf_srG (acc : List Int) (g : Int → Int → Int) : ∀ l : List Int, l.length < acc.length → ∀ k, cf ((enumI l).foldl (fun s q => if q.2 = 0 then s else s.set (q.1 + 1).toNat (g q.1 q.2)) acc) k = if k = 0 then cf acc 0 else if k - 1 < l.length ∧ cf l (k - 1) ≠ 0 then g ((k - 1 : Nat) : Int) (cf l (k - 1)) else cf acc k := by
  refine snoc_ind ?_ fun l x ih => ?_
  · intro _ k
    simp only [enumI, List.mapIdx_nil, List.foldl_nil, List.length_nil, Nat.not_lt_zero, false_and, if_false]
    split
    · rename_i h; rw [h]
    · rfl
  · intro h k
    rw [List.length_append] at h
    have h' : l.length + 1 < acc.length := h
    have ih' := ih (by omega)
    rw [enumI_snoc, List.foldl_append]
    have hlen : (List.foldl (fun s (q : Int × Int) => if q.2 = 0 then s else s.set (q.1 + 1).toNat (g q.1 q.2)) acc (enumI l)).length = acc.length := foldl_len _ (fun _ _ => by split <;> simp) _ _
    show cf (if x = 0 then List.foldl _ acc (enumI l) else (List.foldl _ acc (enumI l)).set ((l.length : Int) + 1).toNat (g (l.length : Int) x)) k = _
    have e : ((l.length : Int) + 1).toNat = l.length + 1 := by omega
    have hl2 : (l ++ [x]).length = l.length + 1 := by simp
    rw [e, hl2]
    by_cases hx : x = 0
    · rw [if_pos hx, ih']
      by_cases hk : k = 0
      · rw [if_pos hk, if_pos hk]
      · rw [if_neg hk, if_neg hk, cf_snoc]
        by_cases h2 : k - 1 = l.length
        · rw [if_pos h2, if_neg (by omega), if_neg (by intro z; exact z.2 hx)]
        · rw [if_neg h2]
          by_cases h3 : k - 1 < l.length ∧ cf l (k - 1) ≠ 0
          · rw [if_pos h3, if_pos ⟨by omega, h3.2⟩]
          · rw [if_neg h3, if_neg (by intro z; exact h3 ⟨by omega, z.2⟩)]
    · rw [if_neg hx, cf_set (by rw [hlen]; omega), ih']
      by_cases hk : k = 0
      · rw [if_neg (by omega), if_pos hk, if_pos hk]
      · rw [if_neg hk, if_neg hk, cf_snoc]
        by_cases h2 : k = l.length + 1
        · rw [if_pos h2, if_pos (show k - 1 = l.length by omega), if_pos ⟨by omega, hx⟩, show k - 1 = l.length by omega]
        · rw [if_neg h2, if_neg (show ¬ k - 1 = l.length by omega)]
          by_cases h3 : k - 1 < l.length ∧ cf l (k - 1) ≠ 0
          · rw [if_pos h3, if_pos ⟨by omega, h3.2⟩]
          · rw [if_neg h3, if_neg (by intro z; exact h3 ⟨by omega, z.2⟩)]
theorem ps_src (hp : Pm p) {l : List Int} (hz : ∀ k : Nat, (k : Int) % p = p - 1 → cf l k = 0) : ps p (pSrc p l) = PS.J p (ps p l) := PS.ext fun k => by
  have hpg := hp.ge
  unfold pSrc srF
  rw [ps_trim, ps_at, cf_srG _ (fun i x => x * pinv p (i % p + 1)) l (by rw [List.length_replicate]; omega)]
  show _ = if k = 0 then 0 else if k % p.toNat = 0 then 0 else ZM.mk p (pinv p ((k : Int) % p)) * ps p l (k - 1)
  by_cases h0 : k = 0
  · rw [if_pos h0, if_pos h0, cf_rep]; rfl
  · rw [if_neg h0, if_neg h0, cf_rep]
    obtain ⟨q, rfl⟩ : ∃ q : Nat, p = (q : Int) := ⟨p.toNat, by omega⟩
    rw [Int.toNat_natCast]
    have hkm : ((k - 1 : Nat) : Int) % (q : Int) = ((k - 1) % q : Nat) := by rw [Int.natCast_emod]
    have hm := Nat.mod_lt (k - 1) (show 0 < q by omega)
    have hs : k % q = if (k - 1) % q + 1 = q then 0 else (k - 1) % q + 1 := by
      have h2 : k = q * ((k - 1) / q) + ((k - 1) % q + 1) := by
        have := Nat.mod_add_div (k - 1) q
        omega
      have h3 : k % q = ((k - 1) % q + 1) % q := by
        conv => lhs; rw [h2, Nat.mul_add_mod]
      rw [h3]
      by_cases h4 : (k - 1) % q + 1 = q
      · rw [if_pos h4, h4, Nat.mod_self]
      · rw [if_neg h4, Nat.mod_eq_of_lt (by omega)]
    by_cases h4 : (k - 1) % q + 1 = q
    · have h5 := hz (k - 1) (by rw [hkm]; omega)
      rw [if_neg (show ¬ (k - 1 < l.length ∧ cf l (k - 1) ≠ 0) from fun z => z.2 h5), if_pos (show k % q = 0 by rw [hs, if_pos h4])]
      rfl
    · have hne : ¬ k % q = 0 := by rw [hs, if_neg h4]; omega
      rw [if_neg hne]
      have e1 : (k : Int) % (q : Int) = ((k - 1 : Nat) : Int) % (q : Int) + 1 := by
        rw [hkm, ← Int.natCast_emod, hs, if_neg h4]; rfl
      rw [e1, ps_at, ZM.mk_mul]
      by_cases h6 : k - 1 < l.length ∧ cf l (k - 1) ≠ 0
      · rw [if_pos h6, Int.mul_comm]
      · rw [if_neg h6]
        have h7 : cf l (k - 1) = 0 := by
          by_cases h8 : k - 1 < l.length
          · exact Classical.byContradiction fun z => h6 ⟨h8, z⟩
          · exact cf_out (by omega)
        rw [h7, Int.mul_zero]
end
end Cw
set_option maxHeartbeats 4000000
namespace Cw
open Lean.Grind
section
variable {p : Int}
theorem C_two : (PS.C (ZM.mk p 2) : PZ p) = 1 + 1 := by
  have : ZM.mk p 2 = ZM.mk p 1 + ZM.mk p 1 := rfl
  rw [this, PS.C_add]; rfl
theorem slope_alg (hp : Pm p) {b t s f B F P Pf u1 u2 u3 : PZ p} (hB : B * b = P) (hP : PS.Der P = 0) (hF : F * F = Pf * f) (hPf : PS.Der Pf = 0) (nf : PS.C (ZM.mk p 2) * f ≠ 0) (nb : b ≠ 0) (nF : F ≠ 0)
    (c1 : u1 * (b * b * (PS.C (ZM.mk p 2) * f)) = (PS.Der t * b - t * PS.Der b) * (PS.C (ZM.mk p 2) * f) * u3)
    (c2 : u2 * (b * b * (PS.C (ZM.mk p 2) * f)) = ((PS.Der s * b - s * PS.Der b) * (PS.C (ZM.mk p 2) * f) + s * PS.Der f * b) * u3) :
    u1 * P = PS.Der (t * B) * u3 ∧ u2 * (F * P) = PS.Der (s * B * F) * u3 := by
  have d1 : PS.Der B * b + B * PS.Der b = 0 := by rw [← PS.Der_mul, hB, hP]
  have d2 : PS.Der F * F + F * PS.Der F = Pf * PS.Der f := by
    rw [← PS.Der_mul, hF, PS.Der_mul, hPf]; grind
  have d3 : (1 + 1) * f * PS.Der F = F * PS.Der f := PS.cancel hp nF (by
    have : (1 + 1) * f * PS.Der F * F = f * (PS.Der F * F + F * PS.Der F) := by grind
    rw [this, d2]
    have : f * (Pf * PS.Der f) = (Pf * f) * PS.Der f := by grind
    rw [this, ← hF]; grind)
  have nn : b * b * (PS.C (ZM.mk p 2) * f) ≠ 0 := fun z => by
    rcases PS.dom hp z with z | z
    · rcases PS.dom hp z with z | z <;> exact nb z
    · exact nf z
  rw [C_two] at c1 c2 nn
  refine ⟨PS.cancel hp nn ?_, PS.cancel hp nn ?_⟩
  · rw [PS.Der_mul]
    have e1 : u1 * P * (b * b * ((1 + 1) * f)) = P * (u1 * (b * b * ((1 + 1) * f))) := by grind
    have e2 : (PS.Der t * B + t * PS.Der B) * u3 * (b * b * ((1 + 1) * f)) = (PS.Der t * (B * b) * b + t * b * (PS.Der B * b)) * ((1 + 1) * f) * u3 := by grind
    rw [e1, c1, e2, hB, show PS.Der B * b = -(B * PS.Der b) by grind]
    rw [← hB]; grind
  · rw [PS.Der_mul, PS.Der_mul]
    have e1 : u2 * (F * P) * (b * b * ((1 + 1) * f)) = F * P * (u2 * (b * b * ((1 + 1) * f))) := by grind
    have e2 : ((PS.Der s * B + s * PS.Der B) * F + s * B * PS.Der F) * u3 * (b * b * ((1 + 1) * f)) = ((PS.Der s * (B * b) * b + s * b * (PS.Der B * b)) * F * ((1 + 1) * f) + s * (B * b) * b * ((1 + 1) * f * PS.Der F)) * u3 := by grind
    rw [e1, c2, e2, hB, d3, show PS.Der B * b = -(B * PS.Der b) by grind]
    rw [← hB]; grind
theorem half (hp : Pm p) : ((p + 1) / 2).toNat + ((p + 1) / 2).toNat = p.toNat + 1 := by rcases hp with rfl | rfl | rfl | rfl | rfl <;> rfl
theorem pow_dup {a : PZ p} (n m : Nat) : a ^ n * a ^ m = a ^ (n + m) := by
  induction m with
  | zero => rw [Semiring.pow_zero, Nat.add_zero]; grind
  | succ m ih => rw [Semiring.pow_succ, Nat.add_succ, Semiring.pow_succ, ← ih]; grind
theorem pow_ne (hp : Pm p) {a : PZ p} (h : a ≠ 0) : ∀ n : Nat, a ^ n ≠ 0
  | 0 => by rw [Semiring.pow_zero]; exact PS.one_ne hp
  | n + 1 => fun z => by
    rw [Semiring.pow_succ] at z
    rcases PS.dom hp z with z | z
    · exact pow_ne hp h n z
    · exact h z
end
/-- what is known of a curve's and a function's series -/
structure Fk (c : Cur) (T : Tri) : Prop where
  nb : ps c.1 T.2.2 ≠ 0
  nf : ps c.1 c.2 ≠ 0
  n2 : PS.C (ZM.mk c.1 2) * ps c.1 c.2 ≠ 0
  nF : ps c.1 c.2 ^ ((c.1 + 1) / 2).toNat ≠ 0
  hB : ps c.1 T.2.2 ^ (c.1 - 1).toNat * ps c.1 T.2.2 = ps c.1 T.2.2 ^ c.1.toNat
  hF : ps c.1 c.2 ^ ((c.1 + 1) / 2).toNat * ps c.1 c.2 ^ ((c.1 + 1) / 2).toNat = ps c.1 c.2 ^ c.1.toNat * ps c.1 c.2
section
variable {c : Cur} {T U V : Tri}
theorem fk (cv : CvOk c) (hT : LsOk c.1 T) : Fk c T where
  nb := ps_ne cv.pos hT.n3 hT.ne
  nf := ps_ne cv.pos cv.nr cv.ne
  n2 := fun z => ps_ne cv.pos (trim_nrm cv.pos _) (twice_ne cv.pm cv.nr cv.ne) (by
    show ps c.1 (pscl c.1 c.2 2) = 0
    rw [ps_pscl]; exact z)
  nF := pow_ne cv.pm (ps_ne cv.pos cv.nr cv.ne) _
  hB := by
    have := cv.pm.ge
    rw [← Semiring.pow_succ, show (c.1 - 1).toNat + 1 = c.1.toNat by omega]
  hF := by rw [pow_dup, half cv.pm, Semiring.pow_succ]
theorem ps_low : ps c.1 (fLow c T) = ps c.1 T.1 * ps c.1 T.2.2 ^ (c.1 - 1).toNat := by
  unfold fLow
  rw [ps_pmul, ps_ppow]
theorem ps_high : ps c.1 (fHigh c T) = ps c.1 T.2.1 * ps c.1 T.2.2 ^ (c.1 - 1).toNat * ps c.1 c.2 ^ ((c.1 + 1) / 2).toNat := by
  unfold fHigh
  rw [ps_pmul, ps_pmul, ps_ppow, ps_ppow]
theorem slope_ls (cv : CvOk c) (hT : LsOk c.1 T) : LsOk c.1 (fSlope c T) :=
  (least_ok cv.pm (trim_nrm cv.pos _) (trim_nrm cv.pos _) (trim_nrm cv.pos _) (pmul_ne cv.pm (trim_nrm cv.pos _) (trim_nrm cv.pos _) (pmul_ne cv.pm hT.n3 hT.n3 hT.ne hT.ne) (twice_ne cv.pm cv.nr cv.ne))).1
/-- the slope, in the other form -/
theorem slope_eq (cv : CvOk c) (hT : LsOk c.1 T) : ps c.1 (fSlope c T).1 * ps c.1 T.2.2 ^ c.1.toNat = PS.Der (ps c.1 (fLow c T)) * ps c.1 (fSlope c T).2.2 ∧
    ps c.1 (fSlope c T).2.1 * (ps c.1 c.2 ^ ((c.1 + 1) / 2).toNat * ps c.1 T.2.2 ^ c.1.toNat) = PS.Der (ps c.1 (fHigh c T)) * ps c.1 (fSlope c T).2.2 := by
  have k := fk cv hT
  rw [ps_low, ps_high]
  have lc := least_cross cv.pm (t := pmul c.1 (psub c.1 (pmul c.1 (pder c.1 T.1) T.2.2) (pmul c.1 T.1 (pder c.1 T.2.2))) (pscl c.1 c.2 2)) (s := padd c.1 (pmul c.1 (psub c.1 (pmul c.1 (pder c.1 T.2.1) T.2.2) (pmul c.1 T.2.1 (pder c.1 T.2.2))) (pscl c.1 c.2 2)) (pmul c.1 (pmul c.1 T.2.1 (pder c.1 c.2)) T.2.2)) (b := pmul c.1 (pmul c.1 T.2.2 T.2.2) (pscl c.1 c.2 2)) (trim_nrm cv.pos _) (trim_nrm cv.pos _) (trim_nrm cv.pos _) (pmul_ne cv.pm (trim_nrm cv.pos _) (trim_nrm cv.pos _) (pmul_ne cv.pm hT.n3 hT.n3 hT.ne hT.ne) (twice_ne cv.pm cv.nr cv.ne))
  obtain ⟨l1, l2⟩ := lc
  rw [show leastT c.1 (pmul c.1 (psub c.1 (pmul c.1 (pder c.1 T.1) T.2.2) (pmul c.1 T.1 (pder c.1 T.2.2))) (pscl c.1 c.2 2)) (padd c.1 (pmul c.1 (psub c.1 (pmul c.1 (pder c.1 T.2.1) T.2.2) (pmul c.1 T.2.1 (pder c.1 T.2.2))) (pscl c.1 c.2 2)) (pmul c.1 (pmul c.1 T.2.1 (pder c.1 c.2)) T.2.2)) (pmul c.1 (pmul c.1 T.2.2 T.2.2) (pscl c.1 c.2 2)) = fSlope c T from rfl] at l1 l2
  generalize fSlope c T = W at l1 l2 ⊢
  simp only [ps_pmul, ps_psub, ps_padd, ps_pscl, ps_pder] at l1 l2
  refine slope_alg cv.pm k.hB (PS.Der_pow cv.pm _) k.hF (PS.Der_pow cv.pm _) k.n2 k.nb k.nF l1 ?_
  rw [l2]
theorem last_iff (cv : CvOk c) (hT : LsOk c.1 T) (i : Nat) : nought (fPart c T (i : Int)) ↔ PS.Ev c.1.toNat i (ps c.1 (fLow c T)) = 0 ∧ PS.Ev c.1.toNat i (ps c.1 (fHigh c T)) = 0 := by
  have hp := cv.pos
  obtain ⟨ok, k, hk, k1, k2, _⟩ := least_ok cv.pm (t := pmul c.1 (pEvery c.1 (fLow c T) (i : Int)) c.2) (s := pEvery c.1 (fHigh c T) (i : Int)) (b := pmul c.1 T.2.2 c.2) (trim_nrm hp _) (trim_nrm hp _) (trim_nrm hp _) (pmul_ne cv.pm hT.n3 cv.nr hT.ne cv.ne)
  have nf := ps_ne hp cv.nr cv.ne
  rw [ps_pmul] at k1
  rw [← ps_every hp, ← ps_every hp]
  unfold nought fPart
  constructor
  · rintro ⟨h1, h2⟩
    rw [h1, ps_nil] at k1
    rw [h2, ps_nil] at k2
    refine ⟨?_, k2.trans (by grind)⟩
    rcases PS.dom cv.pm (k1.trans (by grind)) with z | z
    · exact z
    · exact absurd z nf
  · rintro ⟨h1, h2⟩
    rw [h1] at k1
    rw [h2] at k2
    refine ⟨(ps_eq0 hp ok.n1).mp ?_, (ps_eq0 hp ok.n2).mp ?_⟩
    · rcases PS.dom cv.pm (k1.symm.trans (by grind)) with z | z
      · exact absurd z hk
      · exact z
    · rcases PS.dom cv.pm k2.symm with z | z
      · exact absurd z hk
      · exact z
/-- L over the p-th power -/
theorem low_P (cv : CvOk c) (hT : LsOk c.1 T) : ps c.1 (fLow c T) * ps c.1 T.2.2 = ps c.1 T.1 * ps c.1 T.2.2 ^ c.1.toNat := by
  have := (fk cv hT).hB
  rw [ps_low]; grind
theorem high_P (cv : CvOk c) (hT : LsOk c.1 T) : ps c.1 (fHigh c T) * ps c.1 T.2.2 = ps c.1 T.2.1 * ps c.1 c.2 ^ ((c.1 + 1) / 2).toNat * ps c.1 T.2.2 ^ c.1.toNat := by
  have := (fk cv hT).hB
  rw [ps_high]; grind
/-- a function W told by top / P, side / (F P) with other p-th powers below: its L and H -/
theorem low_of (cv : CvOk c) (hW : LsOk c.1 U) {P G : PZ c.1} (h : ps c.1 U.1 * P = G * ps c.1 U.2.2) : ps c.1 (fLow c U) * P = G * ps c.1 U.2.2 ^ c.1.toNat := by
  have := (fk cv hW).hB
  rw [ps_low]; grind
theorem high_of (cv : CvOk c) (hW : LsOk c.1 U) {P G : PZ c.1} (h : ps c.1 U.2.1 * (ps c.1 c.2 ^ ((c.1 + 1) / 2).toNat * P) = G * ps c.1 U.2.2) : ps c.1 (fHigh c U) * P = G * ps c.1 U.2.2 ^ c.1.toNat := by
  have := (fk cv hW).hB
  rw [ps_high]; grind
/-- the last part of a slope is nought -/
theorem slope_last (cv : CvOk c) (hT : LsOk c.1 T) : nought (fLast c (fSlope c T)) := by
  have hpg := cv.pm.ge
  have hU := slope_ls cv hT
  obtain ⟨e1, e2⟩ := slope_eq cv hT
  have f1 := low_of cv hU e1
  have f2 := high_of cv hU e2
  have nb := (fk cv hT).nb
  have hi : c.1.toNat - 1 < c.1.toNat := by omega
  have key : ∀ (u v : PZ c.1), u * ps c.1 T.2.2 ^ c.1.toNat = PS.Der v * ps c.1 (fSlope c T).2.2 ^ c.1.toNat → PS.Ev c.1.toNat (c.1.toNat - 1) u = 0 := fun u v h => by
    rw [PS.pow_fr cv.pm, PS.pow_fr cv.pm] at h
    have h2 := PS.Ev_fr hi u (ps c.1 T.2.2)
    rw [h, PS.Ev_fr hi, PS.Ev_Der cv.pm] at h2
    rcases PS.dom cv.pm (h2.symm.trans (by grind)) with z | z
    · exact z
    · exact absurd z nb
  have : fLast c (fSlope c T) = fPart c (fSlope c T) ((c.1.toNat - 1 : Nat) : Int) := by
    unfold fLast
    congr 1
    omega
  rw [this, last_iff cv hU]
  exact ⟨key _ _ f1, key _ _ f2⟩
theorem src_nrm (cv : CvOk c) (hT : LsOk c.1 T) : Nrm c.1 (pmul c.1 (pSrc c.1 (fLow c T)) (ppow c.1 c.2 ((c.1 + 1) / 2).toNat)) ∧ Nrm c.1 (pSrc c.1 (fHigh c T)) ∧ Nrm c.1 (pmul c.1 (pStretch c.1 T.2.2) (ppow c.1 c.2 ((c.1 + 1) / 2).toNat)) ∧ pmul c.1 (pStretch c.1 T.2.2) (ppow c.1 c.2 ((c.1 + 1) / 2).toNat) ≠ [] := by
  have hpg := cv.pm.ge
  exact ⟨trim_nrm cv.pos _, trim_nrm cv.pos _, trim_nrm cv.pos _, pmul_ne cv.pm (pStretch_nrm cv.pos hT.n3) (ppow_nrm (by omega) _) (pStretch_ne cv.pos hT.ne) (ppow_ne cv.pm cv.nr cv.ne _)⟩
theorem src_ls (cv : CvOk c) (hT : LsOk c.1 T) : LsOk c.1 (fSrc c T) := by
  obtain ⟨h1, h2, h3, h4⟩ := src_nrm cv hT
  exact (least_ok cv.pm h1 h2 h3 h4).1
/-- the source, in the other form -/
theorem src_eq (cv : CvOk c) (hT : LsOk c.1 T) (h : nought (fLast c T)) : ps c.1 (fSrc c T).1 * ps c.1 T.2.2 ^ c.1.toNat = PS.J c.1 (ps c.1 (fLow c T)) * ps c.1 (fSrc c T).2.2 ∧
    ps c.1 (fSrc c T).2.1 * (ps c.1 c.2 ^ ((c.1 + 1) / 2).toNat * ps c.1 T.2.2 ^ c.1.toNat) = PS.J c.1 (ps c.1 (fHigh c T)) * ps c.1 (fSrc c T).2.2 := by
  obtain ⟨h1, h2, h3, h4⟩ := src_nrm cv hT
  have hz := last_zero cv hT h
  have k := fk cv hT
  obtain ⟨l1, l2⟩ := least_cross cv.pm h1 h2 h3 h4
  rw [show leastT c.1 (pmul c.1 (pSrc c.1 (fLow c T)) (ppow c.1 c.2 ((c.1 + 1) / 2).toNat)) (pSrc c.1 (fHigh c T)) (pmul c.1 (pStretch c.1 T.2.2) (ppow c.1 c.2 ((c.1 + 1) / 2).toNat)) = fSrc c T from rfl] at l1 l2
  generalize fSrc c T = W at l1 l2 ⊢
  rw [ps_pmul, ps_pmul, ps_src cv.pm fun k hk => (hz k hk).1, ps_ppow, ps_stretch cv.pos, ← PS.pow_fr cv.pm] at l1
  rw [ps_pmul, ps_src cv.pm fun k hk => (hz k hk).2, ps_ppow, ps_stretch cv.pos, ← PS.pow_fr cv.pm] at l2
  refine ⟨PS.cancel cv.pm k.nF ?_, ?_⟩
  · grind
  · rw [← l2]; grind
theorem last_ev (cv : CvOk c) (hT : LsOk c.1 T) (h : nought (fLast c T)) : PS.Ev c.1.toNat (c.1.toNat - 1) (ps c.1 (fLow c T)) = 0 ∧ PS.Ev c.1.toNat (c.1.toNat - 1) (ps c.1 (fHigh c T)) = 0 := by
  have hpg := cv.pm.ge
  have : fLast c T = fPart c T ((c.1.toNat - 1 : Nat) : Int) := by
    unfold fLast
    congr 1
    omega
  rw [this, last_iff cv hT] at h
  exact h
/-- the slope of the source -/
theorem src_slope (cv : CvOk c) (hT : LsOk c.1 T) (h : nought (fLast c T)) : fSlope c (fSrc c T) = T := by
  have hV := src_ls cv hT
  have hW := slope_ls cv hV
  obtain ⟨e1, e2⟩ := src_eq cv hT h
  obtain ⟨g1, g2⟩ := slope_eq cv hV
  obtain ⟨v1, v2⟩ := last_ev cv hT h
  have kT := fk cv hT
  have kV := fk cv hV
  have f1 := congrArg PS.Der (low_of cv hV e1)
  have f2 := congrArg PS.Der (high_of cv hV e2)
  rw [PS.Der_mul, PS.Der_mul, PS.Der_pow cv.pm, PS.Der_pow cv.pm, PS.Der_J cv.pm _ v1] at f1
  rw [PS.Der_mul, PS.Der_mul, PS.Der_pow cv.pm, PS.Der_pow cv.pm, PS.Der_J cv.pm _ v2] at f2
  have nP := pow_ne cv.pm kV.nb c.1.toNat
  have nQ := pow_ne cv.pm kT.nb c.1.toNat
  have w1 := low_P cv hT
  have w2 := high_P cv hT
  refine least_uniq cv.pm hW hT (PS.cancel cv.pm nP (PS.cancel cv.pm nQ ?_)) (PS.cancel cv.pm nP (PS.cancel cv.pm nQ (PS.cancel cv.pm kT.nF ?_)))
  · generalize ps c.1 T.2.2 ^ c.1.toNat = P at *
    generalize ps c.1 (fSrc c T).2.2 ^ c.1.toNat = Q at *
    generalize PS.Der (ps c.1 (fLow c (fSrc c T))) = dL at *
    generalize ps c.1 (fLow c T) = L at *
    have : dL * P = L * Q := by grind
    grind
  · generalize ps c.1 T.2.2 ^ c.1.toNat = P at *
    generalize ps c.1 (fSrc c T).2.2 ^ c.1.toNat = Q at *
    generalize PS.Der (ps c.1 (fHigh c (fSrc c T))) = dL at *
    generalize ps c.1 (fHigh c T) = L at *
    generalize ps c.1 c.2 ^ ((c.1 + 1) / 2).toNat = F at *
    have : dL * P = L * Q := by grind
    grind
/-- the source has no first part -/
theorem src_first (cv : CvOk c) (hT : LsOk c.1 T) (h : nought (fLast c T)) : nought (fPart c (fSrc c T) 0) := by
  have hV := src_ls cv hT
  obtain ⟨e1, e2⟩ := src_eq cv hT h
  have hpg := cv.pm.ge
  have nb := (fk cv hT).nb
  have key : ∀ (u v : PZ c.1), u * ps c.1 T.2.2 ^ c.1.toNat = PS.J c.1 v * ps c.1 (fSrc c T).2.2 ^ c.1.toNat → PS.Ev c.1.toNat 0 u = 0 := fun u v h => by
    rw [PS.pow_fr cv.pm, PS.pow_fr cv.pm] at h
    have h2 := PS.Ev_fr (q := c.1.toNat) (i := 0) (by omega) u (ps c.1 T.2.2)
    rw [h, PS.Ev_fr (by omega), PS.Ev_J cv.pm] at h2
    rcases PS.dom cv.pm (h2.symm.trans (by grind)) with z | z
    · exact z
    · exact absurd z nb
  have := (last_iff cv hV 0).mpr ⟨key _ _ (low_of cv hV e1), key _ _ (high_of cv hV e2)⟩
  exact this
/-! ### powers of functions -/
/-- T is (u + v y) / d -/
structure Is (c : Cur) (T : Tri) (u v d : PZ c.1) : Prop where
  ls : LsOk c.1 T
  nd : d ≠ 0
  e1 : ps c.1 T.1 * d = u * ps c.1 T.2.2
  e2 : ps c.1 T.2.1 * d = v * ps c.1 T.2.2
theorem least_is (cv : CvOk c) {t s b : List Int} (nt : Nrm c.1 t) (ns : Nrm c.1 s) (nb : Nrm c.1 b) (hb : b ≠ []) : Is c (leastT c.1 t s b) (ps c.1 t) (ps c.1 s) (ps c.1 b) := by
  obtain ⟨l1, l2⟩ := least_cross cv.pm nt ns nb hb
  exact ⟨(least_ok cv.pm nt ns nb hb).1, ps_ne cv.pos nb hb, l1, l2⟩
theorem is_self (cv : CvOk c) (hT : LsOk c.1 T) : Is c T (ps c.1 T.1) (ps c.1 T.2.1) (ps c.1 T.2.2) := ⟨hT, ps_ne cv.pos hT.n3 hT.ne, rfl, rfl⟩
/-- another fraction of the same -/
theorem is_via (cv : CvOk c) {u v d u' v' d' : PZ c.1} (h : Is c T u v d) (n : d' ≠ 0) (h1 : u * d' = u' * d) (h2 : v * d' = v' * d) : Is c T u' v' d' :=
  ⟨h.ls, n, PS.cancel cv.pm h.nd (by have := h.e1; grind), PS.cancel cv.pm h.nd (by have := h.e2; grind)⟩
theorem is_uniq (cv : CvOk c) {u v d : PZ c.1} (h : Is c T u v d) (k : Is c U u v d) : T = U :=
  least_uniq cv.pm h.ls k.ls (PS.cancel cv.pm h.nd (by have := h.e1; have := k.e1; grind)) (PS.cancel cv.pm h.nd (by have := h.e2; have := k.e2; grind))
theorem ne_mul (cv : CvOk c) {a b : PZ c.1} (h : a ≠ 0) (k : b ≠ 0) : a * b ≠ 0 := fun z => by
  rcases PS.dom cv.pm z with z | z
  · exact h z
  · exact k z
theorem times_is (cv : CvOk c) {u v d u' v' d' : PZ c.1} (h : Is c T u v d) (k : Is c U u' v' d') : Is c (fTimes c T U) (u * u' + v * v' * ps c.1 c.2) (u * v' + v * u') (d * d') := by
  have hb := ne_mul cv (ps_ne cv.pos h.ls.n3 h.ls.ne) (ps_ne cv.pos k.ls.n3 k.ls.ne)
  have m := least_is cv (t := padd c.1 (pmul c.1 T.1 U.1) (pmul c.1 (pmul c.1 T.2.1 U.2.1) c.2)) (s := padd c.1 (pmul c.1 T.1 U.2.1) (pmul c.1 T.2.1 U.1)) (b := pmul c.1 T.2.2 U.2.2) (trim_nrm cv.pos _) (trim_nrm cv.pos _) (trim_nrm cv.pos _) (pmul_ne cv.pm h.ls.n3 k.ls.n3 h.ls.ne k.ls.ne)
  simp only [ps_padd, ps_pmul] at m
  have := h.e1; have := h.e2; have := k.e1; have := k.e2
  exact is_via cv m (ne_mul cv h.nd k.nd) (by grind) (by grind)
theorem minus_is (cv : CvOk c) {u v d u' v' d' : PZ c.1} (h : Is c T u v d) (k : Is c U u' v' d') : Is c (fMinus c T U) (u * d' - u' * d) (v * d' - v' * d) (d * d') := by
  have o := least_is cv (t := pneg c.1 U.1) (s := pneg c.1 U.2.1) (b := U.2.2) (trim_nrm cv.pos _) (trim_nrm cv.pos _) k.ls.n3 k.ls.ne
  rw [show leastT c.1 (pneg c.1 U.1) (pneg c.1 U.2.1) U.2.2 = fOpp c U from rfl] at o
  simp only [ps_pneg] at o
  have o2 : Is c (fOpp c U) (-u') (-v') d' := by
    have := k.e1; have := k.e2
    exact is_via cv o k.nd (by grind) (by grind)
  have m := least_is cv (t := padd c.1 (pmul c.1 T.1 (fOpp c U).2.2) (pmul c.1 (fOpp c U).1 T.2.2)) (s := padd c.1 (pmul c.1 T.2.1 (fOpp c U).2.2) (pmul c.1 (fOpp c U).2.1 T.2.2)) (b := pmul c.1 T.2.2 (fOpp c U).2.2) (trim_nrm cv.pos _) (trim_nrm cv.pos _) (trim_nrm cv.pos _) (pmul_ne cv.pm h.ls.n3 o2.ls.n3 h.ls.ne o2.ls.ne)
  simp only [ps_padd, ps_pmul] at m
  have := h.e1; have := h.e2; have := o2.e1; have := o2.e2
  exact is_via cv m (ne_mul cv h.nd k.nd) (by grind) (by grind)
end
end Cw
set_option maxHeartbeats 8000000
namespace Cw
open Lean.Grind
section
variable {p : Int}
theorem one_is {c : Cur} (cv : CvOk c) : Is c (fOne c) 1 0 1 := by
  have h := least_is cv (one_nrm cv.pm) nrm_nil (one_nrm cv.pm) (by simp)
  rw [ps_one, ps_nil] at h
  exact h
theorem raised3 (c : Cur) (T : Tri) : fRaised c T 3 = fTimes c (fTimes c (fOne c) T) (fTimes c T T) := rfl
theorem raised5 (c : Cur) (T : Tri) : fRaised c T 5 = fTimes c (fTimes c (fOne c) T) (fTimes c (fTimes c T T) (fTimes c T T)) := rfl
theorem raised7 (c : Cur) (T : Tri) : fRaised c T 7 = fTimes c (fTimes c (fTimes c (fOne c) T) (fTimes c T T)) (fTimes c (fTimes c T T) (fTimes c T T)) := rfl
theorem raised11 (c : Cur) (T : Tri) : fRaised c T 11 = fTimes c (fTimes c (fTimes c (fOne c) T) (fTimes c T T)) (fTimes c (fTimes c (fTimes c T T) (fTimes c T T)) (fTimes c (fTimes c T T) (fTimes c T T))) := rfl
theorem raised13 (c : Cur) (T : Tri) : fRaised c T 13 = fTimes c (fTimes c (fTimes c (fOne c) T) (fTimes c (fTimes c T T) (fTimes c T T))) (fTimes c (fTimes c (fTimes c T T) (fTimes c T T)) (fTimes c (fTimes c T T) (fTimes c T T))) := rfl
theorem one_times {c : Cur} (cv : CvOk c) {T : Tri} {u v d : PZ c.1} (h : Is c T u v d) : Is c (fTimes c (fOne c) T) u v d := is_via cv (times_is cv (one_is cv) h) h.nd (by grind) (by grind)
theorem two_is {c : Cur} (cv : CvOk c) {T : Tri} {u v d : PZ c.1} (h : Is c T u v d) : Is c (fTimes c T T) (u ^ 2 + v ^ 2 * ps c.1 c.2) ((1 + 1) * u * v) (d ^ 2) := is_via cv (times_is cv h h) (pow_ne cv.pm h.nd 2) (by grind) (by grind)
theorem times_is' {c : Cur} (cv : CvOk c) {T U : Tri} {u v d u' v' d' x y z : PZ c.1} (h : Is c T u v d) (k : Is c U u' v' d') (hx : x = u * u' + v * v' * ps c.1 c.2) (hy : y = u * v' + v * u') (hz : z = d * d') : Is c (fTimes c T U) x y z := by
  subst hx hy hz
  exact times_is cv h k
theorem qx3 (u v f : PS (ZM 3)) : u ^ 3 = u * (u * u + v * v * f) + v * (u * v + v * u) * f := by grind
theorem qy3 (u v f : PS (ZM 3)) : v ^ 3 * f ^ 1 = u * (u * v + v * u) + v * (u * u + v * v * f) := by grind
theorem qz3 (d : PS (ZM 3)) : d ^ 3 = d * (d * d) := by grind
theorem ris3 {f : List Int} (cv : CvOk (3, f)) {T : Tri} {u v d : PZ 3} (h : Is (3, f) T u v d) : Is (3, f) (fRaised (3, f) T 3) (u ^ 3) (v ^ 3 * ps 3 f ^ 1) (d ^ 3) := by
  have h1 := one_times cv h
  have h2 := times_is cv h h
  have h4 := times_is cv h2 h2
  have h8 := times_is cv h4 h4
  rw [raised3]
  exact times_is' cv h1 h2 (qx3 u v (ps 3 f)) (qy3 u v (ps 3 f)) (qz3 d)
theorem qx5 (u v f : PS (ZM 5)) : u ^ 5 = u * ((u * u + v * v * f) * (u * u + v * v * f) + (u * v + v * u) * (u * v + v * u) * f) + v * ((u * u + v * v * f) * (u * v + v * u) + (u * v + v * u) * (u * u + v * v * f)) * f := by grind
theorem qy5 (u v f : PS (ZM 5)) : v ^ 5 * f ^ 2 = u * ((u * u + v * v * f) * (u * v + v * u) + (u * v + v * u) * (u * u + v * v * f)) + v * ((u * u + v * v * f) * (u * u + v * v * f) + (u * v + v * u) * (u * v + v * u) * f) := by grind
theorem qz5 (d : PS (ZM 5)) : d ^ 5 = d * ((d * d) * (d * d)) := by grind
theorem ris5 {f : List Int} (cv : CvOk (5, f)) {T : Tri} {u v d : PZ 5} (h : Is (5, f) T u v d) : Is (5, f) (fRaised (5, f) T 5) (u ^ 5) (v ^ 5 * ps 5 f ^ 2) (d ^ 5) := by
  have h1 := one_times cv h
  have h2 := times_is cv h h
  have h4 := times_is cv h2 h2
  have h8 := times_is cv h4 h4
  rw [raised5]
  exact times_is' cv h1 h4 (qx5 u v (ps 5 f)) (qy5 u v (ps 5 f)) (qz5 d)
theorem qx7 (u v f : PS (ZM 7)) : u ^ 7 = (u * (u * u + v * v * f) + v * (u * v + v * u) * f) * ((u * u + v * v * f) * (u * u + v * v * f) + (u * v + v * u) * (u * v + v * u) * f) + (u * (u * v + v * u) + v * (u * u + v * v * f)) * ((u * u + v * v * f) * (u * v + v * u) + (u * v + v * u) * (u * u + v * v * f)) * f := by grind
theorem qy7 (u v f : PS (ZM 7)) : v ^ 7 * f ^ 3 = (u * (u * u + v * v * f) + v * (u * v + v * u) * f) * ((u * u + v * v * f) * (u * v + v * u) + (u * v + v * u) * (u * u + v * v * f)) + (u * (u * v + v * u) + v * (u * u + v * v * f)) * ((u * u + v * v * f) * (u * u + v * v * f) + (u * v + v * u) * (u * v + v * u) * f) := by grind
theorem qz7 (d : PS (ZM 7)) : d ^ 7 = (d * (d * d)) * ((d * d) * (d * d)) := by grind
theorem ris7 {f : List Int} (cv : CvOk (7, f)) {T : Tri} {u v d : PZ 7} (h : Is (7, f) T u v d) : Is (7, f) (fRaised (7, f) T 7) (u ^ 7) (v ^ 7 * ps 7 f ^ 3) (d ^ 7) := by
  have h1 := one_times cv h
  have h2 := times_is cv h h
  have h4 := times_is cv h2 h2
  have h8 := times_is cv h4 h4
  rw [raised7]
  exact times_is' cv (times_is cv h1 h2) h4 (qx7 u v (ps 7 f)) (qy7 u v (ps 7 f)) (qz7 d)
theorem qx11 (u v f : PS (ZM 11)) : u ^ 11 = (u * (u * u + v * v * f) + v * (u * v + v * u) * f) * (((u * u + v * v * f) * (u * u + v * v * f) + (u * v + v * u) * (u * v + v * u) * f) * ((u * u + v * v * f) * (u * u + v * v * f) + (u * v + v * u) * (u * v + v * u) * f) + ((u * u + v * v * f) * (u * v + v * u) + (u * v + v * u) * (u * u + v * v * f)) * ((u * u + v * v * f) * (u * v + v * u) + (u * v + v * u) * (u * u + v * v * f)) * f) + (u * (u * v + v * u) + v * (u * u + v * v * f)) * (((u * u + v * v * f) * (u * u + v * v * f) + (u * v + v * u) * (u * v + v * u) * f) * ((u * u + v * v * f) * (u * v + v * u) + (u * v + v * u) * (u * u + v * v * f)) + ((u * u + v * v * f) * (u * v + v * u) + (u * v + v * u) * (u * u + v * v * f)) * ((u * u + v * v * f) * (u * u + v * v * f) + (u * v + v * u) * (u * v + v * u) * f)) * f := by grind
theorem qy11 (u v f : PS (ZM 11)) : v ^ 11 * f ^ 5 = (u * (u * u + v * v * f) + v * (u * v + v * u) * f) * (((u * u + v * v * f) * (u * u + v * v * f) + (u * v + v * u) * (u * v + v * u) * f) * ((u * u + v * v * f) * (u * v + v * u) + (u * v + v * u) * (u * u + v * v * f)) + ((u * u + v * v * f) * (u * v + v * u) + (u * v + v * u) * (u * u + v * v * f)) * ((u * u + v * v * f) * (u * u + v * v * f) + (u * v + v * u) * (u * v + v * u) * f)) + (u * (u * v + v * u) + v * (u * u + v * v * f)) * (((u * u + v * v * f) * (u * u + v * v * f) + (u * v + v * u) * (u * v + v * u) * f) * ((u * u + v * v * f) * (u * u + v * v * f) + (u * v + v * u) * (u * v + v * u) * f) + ((u * u + v * v * f) * (u * v + v * u) + (u * v + v * u) * (u * u + v * v * f)) * ((u * u + v * v * f) * (u * v + v * u) + (u * v + v * u) * (u * u + v * v * f)) * f) := by grind
theorem qz11 (d : PS (ZM 11)) : d ^ 11 = (d * (d * d)) * (((d * d) * (d * d)) * ((d * d) * (d * d))) := by grind
theorem ris11 {f : List Int} (cv : CvOk (11, f)) {T : Tri} {u v d : PZ 11} (h : Is (11, f) T u v d) : Is (11, f) (fRaised (11, f) T 11) (u ^ 11) (v ^ 11 * ps 11 f ^ 5) (d ^ 11) := by
  have h1 := one_times cv h
  have h2 := times_is cv h h
  have h4 := times_is cv h2 h2
  have h8 := times_is cv h4 h4
  rw [raised11]
  exact times_is' cv (times_is cv h1 h2) h8 (qx11 u v (ps 11 f)) (qy11 u v (ps 11 f)) (qz11 d)
theorem qx13 (u v f : PS (ZM 13)) : u ^ 13 = (u * ((u * u + v * v * f) * (u * u + v * v * f) + (u * v + v * u) * (u * v + v * u) * f) + v * ((u * u + v * v * f) * (u * v + v * u) + (u * v + v * u) * (u * u + v * v * f)) * f) * (((u * u + v * v * f) * (u * u + v * v * f) + (u * v + v * u) * (u * v + v * u) * f) * ((u * u + v * v * f) * (u * u + v * v * f) + (u * v + v * u) * (u * v + v * u) * f) + ((u * u + v * v * f) * (u * v + v * u) + (u * v + v * u) * (u * u + v * v * f)) * ((u * u + v * v * f) * (u * v + v * u) + (u * v + v * u) * (u * u + v * v * f)) * f) + (u * ((u * u + v * v * f) * (u * v + v * u) + (u * v + v * u) * (u * u + v * v * f)) + v * ((u * u + v * v * f) * (u * u + v * v * f) + (u * v + v * u) * (u * v + v * u) * f)) * (((u * u + v * v * f) * (u * u + v * v * f) + (u * v + v * u) * (u * v + v * u) * f) * ((u * u + v * v * f) * (u * v + v * u) + (u * v + v * u) * (u * u + v * v * f)) + ((u * u + v * v * f) * (u * v + v * u) + (u * v + v * u) * (u * u + v * v * f)) * ((u * u + v * v * f) * (u * u + v * v * f) + (u * v + v * u) * (u * v + v * u) * f)) * f := by grind
theorem qy13 (u v f : PS (ZM 13)) : v ^ 13 * f ^ 6 = (u * ((u * u + v * v * f) * (u * u + v * v * f) + (u * v + v * u) * (u * v + v * u) * f) + v * ((u * u + v * v * f) * (u * v + v * u) + (u * v + v * u) * (u * u + v * v * f)) * f) * (((u * u + v * v * f) * (u * u + v * v * f) + (u * v + v * u) * (u * v + v * u) * f) * ((u * u + v * v * f) * (u * v + v * u) + (u * v + v * u) * (u * u + v * v * f)) + ((u * u + v * v * f) * (u * v + v * u) + (u * v + v * u) * (u * u + v * v * f)) * ((u * u + v * v * f) * (u * u + v * v * f) + (u * v + v * u) * (u * v + v * u) * f)) + (u * ((u * u + v * v * f) * (u * v + v * u) + (u * v + v * u) * (u * u + v * v * f)) + v * ((u * u + v * v * f) * (u * u + v * v * f) + (u * v + v * u) * (u * v + v * u) * f)) * (((u * u + v * v * f) * (u * u + v * v * f) + (u * v + v * u) * (u * v + v * u) * f) * ((u * u + v * v * f) * (u * u + v * v * f) + (u * v + v * u) * (u * v + v * u) * f) + ((u * u + v * v * f) * (u * v + v * u) + (u * v + v * u) * (u * u + v * v * f)) * ((u * u + v * v * f) * (u * v + v * u) + (u * v + v * u) * (u * u + v * v * f)) * f) := by grind
theorem qz13 (d : PS (ZM 13)) : d ^ 13 = (d * ((d * d) * (d * d))) * (((d * d) * (d * d)) * ((d * d) * (d * d))) := by grind
theorem ris13 {f : List Int} (cv : CvOk (13, f)) {T : Tri} {u v d : PZ 13} (h : Is (13, f) T u v d) : Is (13, f) (fRaised (13, f) T 13) (u ^ 13) (v ^ 13 * ps 13 f ^ 6) (d ^ 13) := by
  have h1 := one_times cv h
  have h2 := times_is cv h h
  have h4 := times_is cv h2 h2
  have h8 := times_is cv h4 h4
  rw [raised13]
  exact times_is' cv (times_is cv h1 h4) h8 (qx13 u v (ps 13 f)) (qy13 u v (ps 13 f)) (qz13 d)
theorem raised_is {c : Cur} (cv : CvOk c) {T : Tri} {u v d : PZ c.1} (h : Is c T u v d) : Is c (fRaised c T c.1) (u ^ c.1.toNat) (v ^ c.1.toNat * ps c.1 c.2 ^ ((c.1 - 1) / 2).toNat) (d ^ c.1.toNat) := by
  obtain ⟨p, f⟩ := c
  have pm := cv.pm
  simp only at pm
  rcases pm with rfl | rfl | rfl | rfl | rfl
  · exact ris3 cv h
  · exact ris5 cv h
  · exact ris7 cv h
  · exact ris11 cv h
  · exact ris13 cv h
theorem ax_a {x P Q J w D : PZ p} (g : x * Q = J * w) (j : J * P = D * Q) : x * P * Q = D * w * Q := by
  have : x * P * Q = (x * Q) * P := by grind
  rw [this, g]
  have : J * w * P = (J * P) * w := by grind
  rw [this, j]; grind
theorem ax_f {x P Q J w D F : PZ p} (g : x * (F * Q) = J * w) (j : J * P = D * Q) : x * (F * P) * Q = D * w * Q := by
  have : x * (F * P) * Q = (x * (F * Q)) * P := by grind
  rw [this, g]
  have : J * w * P = (J * P) * w := by grind
  rw [this, j]; grind
theorem ax_b {m b P R t A mw L : PZ p} (r : m * (b * (P * R)) = (t * (P * R) - A * R * b) * mw) (w : L * b = t * P) : m * P * b * R = (L - A) * mw * b * R := by
  have : m * P * b * R = m * (b * (P * R)) := by grind
  rw [this, r]
  have : t * (P * R) = (t * P) * R := by grind
  rw [this, ← w]; grind
theorem ax_c {m b P R s B g mw H F : PZ p} (r : m * (b * (P * R)) = (s * (P * R) - B * g * b) * mw) (w : H * b = s * F * P) (hg : g * F = R) : m * (F * P) * b * R = (H - B) * mw * b * R := by
  have : m * (F * P) * b * R = F * (m * (b * (P * R))) := by grind
  rw [this, r]
  have : F * ((s * (P * R) - B * g * b) * mw) = ((s * F * P) * R - B * (g * F) * b) * mw := by grind
  rw [this, ← w, hg]; grind
theorem ax_d {v m P D vw mw : PZ p} (a : v * P = D * vw) (b : m * P = D * mw) : v * mw * P = m * vw * P := by
  have : v * mw * P = (v * P) * mw := by grind
  rw [this, a]
  have : m * vw * P = (m * P) * vw := by grind
  rw [this, b]; grind
theorem ax_e {v m P F D vw mw : PZ p} (a : v * (F * P) = D * vw) (b : m * (F * P) = D * mw) : v * mw * P * F = m * vw * P * F := by
  have : v * mw * P * F = (v * (F * P)) * mw := by grind
  rw [this, a]
  have : m * vw * P * F = (m * (F * P)) * vw := by grind
  rw [this, b]; grind
/-- of a slope the source is the function less the p-th power of its first part -/
theorem slope_src {c : Cur} (cv : CvOk c) {T : Tri} (hT : LsOk c.1 T) : fSrc c (fSlope c T) = fMinus c T (fRaised c (fPart c T 0) c.1) := by
  have hpg := cv.pm.ge
  have hU := slope_ls cv hT
  have hn := slope_last cv hT
  have kT := fk cv hT
  have kU := fk cv hU
  obtain ⟨e1, e2⟩ := slope_eq cv hT
  obtain ⟨g1, g2⟩ := src_eq cv hU hn
  obtain ⟨v1, v2⟩ := last_ev cv hU hn
  have w1 := low_P cv hT
  have w2 := high_P cv hT
  have f1 := low_of cv hU e1
  have f2 := high_of cv hU e2
  have hV := src_ls cv hU
  -- two sources of one slope
  have key : ∀ (x y : PZ c.1), x * ps c.1 T.2.2 ^ c.1.toNat = PS.Der y * ps c.1 (fSlope c T).2.2 ^ c.1.toNat → PS.Ev c.1.toNat (c.1.toNat - 1) x = 0 → PS.J c.1 x * ps c.1 T.2.2 ^ c.1.toNat = (y - PS.Fr c.1.toNat (PS.Ev c.1.toNat 0 y)) * ps c.1 (fSlope c T).2.2 ^ c.1.toNat := fun x y h hx => by
    refine anti_uniq cv.pm ?_ ?_
    · rw [PS.Der_mul, PS.Der_mul, PS.Der_pow cv.pm, PS.Der_pow cv.pm, PS.Der_J cv.pm _ hx]
      have : PS.Der (y - PS.Fr c.1.toNat (PS.Ev c.1.toNat 0 y)) = PS.Der y := by
        have e := PS.Der_add (y - PS.Fr c.1.toNat (PS.Ev c.1.toNat 0 y)) (PS.Fr c.1.toNat (PS.Ev c.1.toNat 0 y))
        rw [PS.Der_fr cv.pm, show y - PS.Fr c.1.toNat (PS.Ev c.1.toNat 0 y) + PS.Fr c.1.toNat (PS.Ev c.1.toNat 0 y) = y by grind] at e
        rw [e]; grind
      rw [this]
      grind
    · rw [PS.pow_fr cv.pm, PS.pow_fr cv.pm, PS.Ev_fr (by omega), PS.Ev_fr (by omega), PS.Ev_J cv.pm, PS.Ev_sub]
      have : PS.Ev c.1.toNat 0 (PS.Fr c.1.toNat (PS.Ev c.1.toNat 0 y)) = PS.Ev c.1.toNat 0 y := by
        have e := PS.Ev_fr (q := c.1.toNat) (i := 0) (by omega) (1 : PZ c.1) (PS.Ev c.1.toNat 0 y)
        rw [show (1 : PZ c.1) * PS.Fr c.1.toNat (PS.Ev c.1.toNat 0 y) = PS.Fr c.1.toNat (PS.Ev c.1.toNat 0 y) by grind] at e
        rw [e]
        have : PS.Ev c.1.toNat 0 (1 : PZ c.1) = 1 := PS.ext fun k => by
          show (1 : PZ c.1) (0 + c.1.toNat * k) = _
          rw [PS.one_at, PS.one_at]
          cases k with
          | zero => simp
          | succ k => rw [if_neg (by rw [Nat.mul_succ]; omega), if_neg (by omega)]
        rw [this]; grind
      rw [this]; grind
  have j1 := key _ _ f1 v1
  have j2 := key _ _ f2 v2
  -- the power of the first part
  have hz := least_is cv (t := pmul c.1 (pEvery c.1 (fLow c T) ((0 : Nat) : Int)) c.2) (s := pEvery c.1 (fHigh c T) ((0 : Nat) : Int)) (b := pmul c.1 T.2.2 c.2) (trim_nrm cv.pos _) (trim_nrm cv.pos _) (trim_nrm cv.pos _) (pmul_ne cv.pm hT.n3 cv.nr hT.ne cv.ne)
  rw [ps_pmul, ps_pmul, ps_every cv.pos, ps_every cv.pos] at hz
  have hr := minus_is cv (is_self cv hT) (raised_is cv hz)
  rw [PS.mul_pow', PS.mul_pow', PS.pow_fr cv.pm (PS.Ev c.1.toNat 0 (ps c.1 (fLow c T))), PS.pow_fr cv.pm (PS.Ev c.1.toNat 0 (ps c.1 (fHigh c T)))] at hr
  have hg : ps c.1 c.2 ^ ((c.1 - 1) / 2).toNat * ps c.1 c.2 ^ ((c.1 + 1) / 2).toNat = ps c.1 c.2 ^ c.1.toNat := by
    rw [pow_dup]
    congr 1
    rcases cv.pm with h | h | h | h | h <;> rw [h] <;> rfl
  have hM := hr.ls
  have nP := pow_ne cv.pm kT.nb c.1.toNat
  have nQ := pow_ne cv.pm kU.nb c.1.toNat
  have nff := pow_ne cv.pm kT.nf c.1.toNat
  have r1 := hr.e1
  have r2 := hr.e2
  have nb := kT.nb
  have nF := kT.nF
  show fSrc c (fSlope c T) = fMinus c T (fRaised c (leastT c.1 (pmul c.1 (pEvery c.1 (fLow c T) ((0 : Nat) : Int)) c.2) (pEvery c.1 (fHigh c T) ((0 : Nat) : Int)) (pmul c.1 T.2.2 c.2)) c.1)
  generalize fMinus c T (fRaised c (leastT c.1 (pmul c.1 (pEvery c.1 (fLow c T) ((0 : Nat) : Int)) c.2) (pEvery c.1 (fHigh c T) ((0 : Nat) : Int)) (pmul c.1 T.2.2 c.2)) c.1) = M at *
  generalize PS.Fr c.1.toNat (PS.Ev c.1.toNat 0 (ps c.1 (fLow c T))) = A at *
  generalize PS.Fr c.1.toNat (PS.Ev c.1.toNat 0 (ps c.1 (fHigh c T))) = B at *
  generalize PS.J c.1 (ps c.1 (fLow c (fSlope c T))) = J1 at *
  generalize PS.J c.1 (ps c.1 (fHigh c (fSlope c T))) = J2 at *
  generalize ps c.1 (fLow c T) = L at *
  generalize ps c.1 (fHigh c T) = H at *
  generalize ps c.1 T.2.2 ^ c.1.toNat = P at *
  generalize ps c.1 (fSlope c T).2.2 ^ c.1.toNat = Q at *
  generalize ps c.1 c.2 ^ c.1.toNat = R at *
  generalize ps c.1 c.2 ^ ((c.1 + 1) / 2).toNat = F at *
  generalize ps c.1 c.2 ^ ((c.1 - 1) / 2).toNat = g at *
  generalize fSrc c (fSlope c T) = V at *
  have a1 : ps c.1 V.1 * P = (L - A) * ps c.1 V.2.2 := PS.cancel cv.pm nQ (ax_a g1 j1)
  have a2 : ps c.1 V.2.1 * (F * P) = (H - B) * ps c.1 V.2.2 := PS.cancel cv.pm nQ (ax_f g2 j2)
  have b1 : ps c.1 M.1 * P = (L - A) * ps c.1 M.2.2 := PS.cancel cv.pm nb (PS.cancel cv.pm nff (ax_b r1 w1))
  have b2 : ps c.1 M.2.1 * (F * P) = (H - B) * ps c.1 M.2.2 := PS.cancel cv.pm nb (PS.cancel cv.pm nff (ax_c r2 w2 hg))
  exact least_uniq cv.pm hV hM (PS.cancel cv.pm nP (ax_d a1 b1)) (PS.cancel cv.pm nP (PS.cancel cv.pm nF (ax_e a2 b2)))
end
end Cw
set_option maxHeartbeats 4000000
namespace Cw
open PySem PySem.Spec PyProof.Rows L2
section
variable {X : Cx}
theorem call_reprB : CallR X (.builtin "repr") (fun xs H Q => ∃ b : Bool, xs = [.bl b] ∧ Q (.str (if b then "True" else "False")) H) := by
  intro pins s σ H xs us Q I r h
  obtain ⟨b, rfl, q⟩ := h
  obtain ⟨u, rfl, ru⟩ := vals1 r
  cases (show u = Value.bool b from ru)
  exact PySem.P.repr_of_bool ⟨.str _, H, I.tok _, ⟨_, rfl⟩, q⟩
end
/-- a def of one parameter that may be called by keyword -/
structure CalK (P : Program) (w : World) (K : Fg) (mg : Str → Option Value) (base : Heap) (k : Nat) (x : Str) (a : Str) (sp : Sp) : Prop where
  ex : ∃ (f : Addr) (fd : FuncData), FnOk P w K mg base C8.CX0 k f fd [a] sp ∧ mg x = some (.ref f) ∧ PySem.W.keepIn K (.ref f) = true ∧ ∀ (s : Shared) (ws : List Value), ws.length = 1 → BindsTo s fd ⟨[], [a].zip ws⟩ ([a].zip ws)
def tCallKw (sp : Sp) (E : XK) (tk : TA) : TE := fun σ H Q => tk σ H fun zs H2 => sp zs H2 Q E
theorem pe_ck {X : Cx} {j k : Nat} {x a : Str} {sp : Sp} {p pos : Pos} {kws : List Keyword} {tk : TA} (c : CalK X.prog X.w X.K X.mg X.base k x a sp) (hr : Room j X.A) (hk : k ≤ j) (hg : Gl X x) (hkw : PK X kws tk) (hall : (backToKw pos (keywordEach kws X.env)).all (·.1.isSome) = true := by rfl) (hks : (backToKw pos (keywordEach kws X.env)).filterMap (·.1) = [a] := by rfl)
    (hdb : (x == ("__debug__" : Str)) = false := by decide) (hpl : ((backTo pos (starEach [] X.env)).any (·.1) || (backToKw pos (keywordEach kws X.env)).any (·.1.isNone)) = false := by rfl) : PE X (.Call (.Name x p) [] kws pos) (tCallKw sp C8.E0 tk) := by
  obtain ⟨f, fd, F, hm, kp, hb⟩ := c.ex
  refine ⟨fun pins s σ H Q I h => ?_⟩
  refine wpAny_Call_Name_kw (ld_glob I hg hm ?_ hdb)
  refine PySem.W.callWith_KW0 (h₀ := X.base) I.ok.mod.kin kp hall (thn (hkw.run pos pins s σ H _ I h) fun ws s2 ⟨zs, H2, I2, rz, q2⟩ => ⟨I2.kIn, ?_⟩) hpl
  rw [hks]
  have hl := F.len _ _ _ _ q2
  have hw : ws.length = 1 := by rw [← rz.length]; exact hl
  refine wpAny_call (codeAny_mono (F.run X.A X.stack s2 H2 ⟨[], [a].zip ws⟩ ws zs Q C8.E0 (hr.mono hk) I2.env0 (hb s2 ws hw) rz q2) fun r s' hq => ?_)
  cases r with
  | error e => exact C8.pass0 (X := X) (E := C8.E0) pins σ H2 s2 e s' I2 hq
  | ok fl =>
    cases fl with
    | ret u => exact I2.after hq
    | next => exact False.elim hq
    | brk => exact False.elim hq
    | cont => exact False.elim hq
section
variable {K : Fg} {G : Ctx} {te ta tb tc : TE} {tr : TA} {d e : D} {ds : List D}
theorem ev_ck {P : List D → D → Prop} {E : XK} (h : EvA K tr G ds) (p : P ds d) : EvD K (tCallKw (spD K P) E tr) G d := fun F0 H0 F H σ s Q q => h F0 H0 F H σ s _ fun vs F1 H1 t1 r1 =>
  ⟨F1, ds, d, t1.fh, r1, p, fun v F2 H2 t2 r2 => q v F2 H2 (t1.trans t2) r2⟩
theorem ev_neB {i j : Bool} (ha : EvD K ta G (.bl i)) (hb : EvD K tb G (.bl j)) : EvD K (tOp rNe ta tb) G (.bl (!decide (i = j))) := ev_op ha hb fun F H x y s hx hy Q q => by
  cases hx
  cases hy
  exact ⟨rfl, q _ F H (Step.refl s) (by show V.bl _ = V.bl _; congr 2; exact decide_eq_decide.mpr ⟨fun h => V.bl.inj h, fun h => by rw [h]⟩)⟩
theorem ev_neS {x : Str} (ha : EvD K ta G (.str x)) (hb : EvD K tb G (.str x)) : EvD K (tOp rNe ta tb) G (.bl false) := ev_op ha hb fun F H u v s hx hy Q q => by
  cases hx
  cases hy
  exact ⟨rfl, q _ F H (Step.refl s) (by show V.bl _ = V.bl _; simp)⟩
theorem ev_repr {b : Bool} (ha : EvD K ta G (.bl b)) : EvD K (tCB (fun xs H Q => ∃ b : Bool, xs = [V.bl b] ∧ Q (.str (if b then "True" else "False")) H) (tCons ta tNil)) G (.str (if b then "True" else "False")) := ev_cb (ea_cons ha ea_nil) fun F H vs s hx Q q => by
  obtain ⟨v, r, rfl, h1, h3⟩ := hx
  cases h1
  cases h3
  exact ⟨b, rfl, q _ F H (Step.refl s) rfl⟩
/-- is None -/
def isNon : D → Bool
  | .non => true
  | _ => false
theorem rep_non {F : Hp} {v : V} (r : Rep K F d v) : decide (v = .non) = isNon d := by
  cases d with
  | non => cases r; rfl
  | bl b => cases r; rfl
  | int i => cases r; rfl
  | str x => cases r; rfl
  | lst ds => obtain ⟨a, vs, rfl, _⟩ := r; rfl
  | tup ds => obtain ⟨a, vs, rfl, _⟩ := r; rfl
  | scr ns => obtain ⟨a, rfl, _⟩ := r; rfl
  | key ns => obtain ⟨a, rfl, _⟩ := r; rfl
  | ins C ns ds => obtain ⟨a, dx, us, rfl, _⟩ := r; rfl
theorem ev_isN (ha : EvD K ta G d) : EvD K (tOp (fun x y H Q => y = .non ∧ Q (.bl (decide (x = .non))) H) ta (tC .non)) G (.bl (isNon d)) := ev_op (b := .non) ha ev_non fun F H v w s hx hy Q q => by
  cases hy
  exact ⟨rfl, q _ F H (Step.refl s) (by show V.bl _ = V.bl _; rw [rep_non hx])⟩
theorem ev_notN (ha : EvD K ta G d) : EvD K (tOp (fun x y H Q => y = .non ∧ Q (.bl (!decide (x = .non))) H) ta (tC .non)) G (.bl (!isNon d)) := ev_op (b := .non) ha ev_non fun F H v w s hx hy Q q => by
  cases hy
  exact ⟨rfl, q _ F H (Step.refl s) (by show V.bl _ = V.bl _; rw [rep_non hx])⟩
theorem ev_notT {i j : Bool} (ha : EvD K ta G (.bl i)) : EvD K (tOp rNotB ta (tC (.bl j))) G (.bl (!decide (i = j))) := ev_op (b := .bl j) ha ev_bl fun F H x y s hx hy Q q => by
  cases hx
  cases hy
  exact ⟨i, j, rfl, rfl, q _ F H (Step.refl s) rfl⟩
theorem ev_isT {i j : Bool} (ha : EvD K ta G (.bl i)) : EvD K (tOp rIsB ta (tC (.bl j))) G (.bl (decide (i = j))) := ev_op (b := .bl j) ha ev_bl fun F H x y s hx hy Q q => by
  cases hx
  cases hy
  exact ⟨i, j, rfl, rfl, q _ F H (Step.refl s) rfl⟩
end
theorem like_t3 {α : Type} [DecidableEq α] {ea : α → D} {k : Nat} (h : Like ea k) : Like (fun t : α × α × α => D.tup [ea t.1, ea t.2.1, ea t.2.2]) (k + 1) := by
  refine ⟨fun t => by simp [okD, okDs, h.ok], fun a b => ?_⟩
  obtain ⟨x, y, z⟩ := a
  obtain ⟨u, v, w⟩ := b
  simp only [py, pys, PyData.eqv, PyData.eqvAll, h.eq]
  by_cases q : x = u <;> by_cases r : y = v <;> by_cases t : z = w <;> simp [q, r, t]
theorem like_tri : Like triD 2 := like_t3 like_ints
end Cw
set_option maxHeartbeats 4000000
namespace Cw
open PySem PySem.Spec PyProof.Rows L2
theorem parts_lastE {c : Cur} {T : Tri} (hp : 0 < c.1) (enc : Tri → D) : atI ((fParts c T).map enc) (-1) = some (enc (fLast c T)) := by
  apply atI_last1
  unfold fParts rangeI
  obtain ⟨n, hn⟩ : ∃ n, c.1.toNat = n + 1 := ⟨c.1.toNat - 1, by omega⟩
  have e : (n : Int) = c.1 - 1 := by omega
  rw [hn, List.range_succ]
  simp [fLast, e]
theorem parts_firstE {c : Cur} {T : Tri} (hp : 0 < c.1) (enc : Tri → D) : atI ((fParts c T).map enc) 0 = some (enc (fPart c T 0)) := by
  unfold fParts rangeI
  obtain ⟨n, hn⟩ : ∃ n, c.1.toNat = n + 1 := ⟨c.1.toNat - 1, by omega⟩
  rw [hn, List.range_succ_eq_map]
  have : atI (List.map enc (List.map (fPart c T) (List.map (fun (k : Nat) => (0 : Int) + (k : Int)) (0 :: List.map Nat.succ (List.range n))))) ((0 : Nat) : Int) = _ := atI_nat rfl
  exact this
theorem parts_lenE {c : Cur} {T : Tri} : (fParts c T).length = c.1.toNat := by
  unfold fParts
  rw [List.length_map, rangeI_len]
theorem fSrc_in {c : Cur} {T : Tri} {n : Nat} (cv : CvOk c) (hT : FnIn c T n) : FnIn c (fSrc c T) (13 * n + 130) := by
  have hpg := cv.pm.ge
  have hpl := cv.pm.le
  have a1 := hT.sz
  obtain ⟨h1, h2, h3, h4⟩ := src_nrm cv hT.ls
  have e1 := fLow_len cv hT
  have e2 := fHigh_len cv hT
  have l2 := ppow_len (p := c.1) (a := c.2) (n := ((c.1 + 1) / 2).toNat)
  have k2 : ((c.1 + 1) / 2).toNat * c.2.length ≤ 7 * 8 := Nat.mul_le_mul (by omega) cv.len
  have s1 := pSrc_len (p := c.1) (l := fLow c T)
  have s2 := pSrc_len (p := c.1) (l := fHigh c T)
  have t1 := pStretch_len (p := c.1) (l := T.2.2) cv.pos hpl
  have m1 := pmul_len (p := c.1) (a := pSrc c.1 (fLow c T)) (b := ppow c.1 c.2 ((c.1 + 1) / 2).toNat)
  have m2 := pmul_len (p := c.1) (a := pStretch c.1 T.2.2) (b := ppow c.1 c.2 ((c.1 + 1) / 2).toNat)
  exact least_in cv h1 h2 h3 h4 (n := 13 * n + 129) (by omega) (by omega) (by omega)
def p__law_asked (K : Fg) (ds : List D) (d : D) : Prop := ∃ c T, ds = [toldD c, fnD K c T] ∧ (CvOk c ∧ FnIn c T 200) ∧ d = .bl true
end Cw
set_option maxHeartbeats 4000000
namespace Cw
open PySem PySem.Spec PyProof.Rows L2
/-! ### sizes and normal lists, by their make -/
section
variable {p : Int} {a b c : List Int} {n m k : Nat}
theorem ln_pmul (h : a.length ≤ n) (l : b.length ≤ m) : (pmul p a b).length ≤ n + m := Nat.le_trans pmul_len (Nat.add_le_add h l)
theorem ln_padd (h : a.length ≤ n) (l : b.length ≤ m) : (padd p a b).length ≤ max n m := Nat.le_trans padd_len (by omega)
theorem ln_psub (h : a.length ≤ n) (l : b.length ≤ m) : (psub p a b).length ≤ max n m := Nat.le_trans psub_len (by omega)
theorem ln_pneg (h : a.length ≤ n) : (pneg p a).length ≤ n := Nat.le_trans pneg_len h
theorem ln_pscl {x : Int} (h : a.length ≤ n) : (pscl p a x).length ≤ n := Nat.le_trans pscl_len h
theorem ln_pder (h : a.length ≤ n) : (pder p a).length ≤ n := Nat.le_trans pder_len h
theorem ln_pquo (h : a.length ≤ n) : (pquo p a b).length ≤ 1 + n := Nat.le_trans pquo_len (by omega)
theorem ln_trim (h : a.length ≤ n) : (trim p a).length ≤ n := Nat.le_trans trim_len h
theorem ln_ppow (h : a.length ≤ n) (l : k ≤ m) : (ppow p a k).length ≤ 1 + m * n := Nat.le_trans ppow_len (by have := Nat.mul_le_mul l h; omega)
theorem ln_one {x : Int} : [x].length ≤ 1 := Nat.le_refl _
theorem ln_nil : ([] : List Int).length ≤ 0 := Nat.le_refl _
theorem nr_trim (h : 0 < p) : Nrm p (trim p a) := trim_nrm h _
theorem nr_pmul (h : 0 < p) : Nrm p (pmul p a b) := trim_nrm h _
theorem nr_padd (h : 0 < p) : Nrm p (padd p a b) := trim_nrm h _
theorem nr_psub (h : 0 < p) : Nrm p (psub p a b) := trim_nrm h _
theorem nr_pneg (h : 0 < p) : Nrm p (pneg p a) := trim_nrm h _
theorem nr_pscl {x : Int} (h : 0 < p) : Nrm p (pscl p a x) := trim_nrm h _
theorem nr_pder (h : 0 < p) : Nrm p (pder p a) := trim_nrm h _
theorem nr_pquo (h : 0 < p) : Nrm p (pquo p a b) := pquo_nrm h
theorem nr_ppow (h : Pm p) : Nrm p (ppow p a k) := ppow_nrm (by have := h.ge; omega) k
theorem nr_pgcd (h : Pm p) (na : Nrm p a) (nb : Nrm p b) : Nrm p (pgcd p a b) := (gcd_two h na nb).1
end
/-! ### xs[::p] -/
def pick0 {α : Type} (xs : List α) (p : Int) : List α := (sliceRange (sliceBounds none none (some p) xs.length).1 (sliceBounds none none (some p) xs.length).2.1 (sliceBounds none none (some p) xs.length).2.2).filterMap (xs[·]?)
theorem pick0_eq {α : Type} (xs : List α) {p : Int} (hp : 0 < p) : pick0 xs p = pickA xs 0 p := by
  unfold pick0 pickA
  have e : sliceBounds none none (some p) xs.length = sliceBounds (some 0) none (some p) xs.length := by
    simp only [sliceBounds, Option.getD_some, hp, gt_iff_lt, if_true]
    congr 1
  rw [e]
def tStepL0 (K : Fg) (te ts : TE) : TE := fun σ H Q => te σ H fun x H1 => tPart ts σ H1 fun c H3 => ∃ a xs p, x = .ref a ∧ c = some p ∧ 0 < p ∧ SqL K H3 a xs ∧ (pick0 xs p).length ≤ xs.length ∧ ∀ q, H3 q = none → Q (.ref q) (upd H3 q (.lst (pick0 xs p)))
theorem pe_stepL0 {X : Cx} {e st : Expr} {te ts : TE} {p3 pos : Pos} (K : Fg) (he : PE X e te) (hs : PE X st ts) (h : X.K = K := by rfl) : PE X (.Subscript e (.Slice none none (some st) p3) pos) (tStepL0 K te ts) := by
  cases h
  refine ⟨fun pins s σ H Q I h => ?_⟩
  refine Subscript_ (thn (he.run pins s σ H _ I h) fun v s1 ⟨x, H1, I1, r1, q1⟩ => ?_)
  refine wpAny_Slice (thn (po_none.run pins s1 σ H1 (fun o H3 => o = none ∧ H3 = H1) I1 ⟨rfl, rfl⟩) fun vl s2 ⟨l, H2, I2, pl, el, e2⟩ => ?_)
  subst el e2
  refine thn (po_none.run pins s2 σ H2 (fun o H3 => o = none ∧ H3 = H2) I2 ⟨rfl, rfl⟩) fun vu s3 ⟨u, H3, I3, pu, eu, e3⟩ => ?_
  subst eu e3
  refine thn ((po_some hs).run pins s3 σ H3 _ I3 q1) fun vs s4 ⟨o, H4, I4, ps, q4⟩ => ?_
  obtain ⟨a, xs, p, ex, eo, hp, hx, hlen2, q⟩ := q4
  subst ex eo
  cases r1
  have I5 : Inv X pins σ H4 { s4 with heap := s4.heap.push { cls := .type "slice", data := .fields #[vl, vu, vs] } } := I4.kept (t' := s4.toks) fun b ob q => Heap.get?_push_of_some _ q
  obtain ⟨its, r, ht, hz⟩ := I5.list hx
  have hlen := r.length
  show wpAny (model X.prog X.w) X.A (subscriptTail e (.Slice none none (some st) p3) (.ref a) (.ref s4.heap.objs.size)) (EP X pins σ Q) X.xe { s4 with heap := s4.heap.push { cls := .type "slice", data := .fields #[vl, vu, vs] } }
  refine tail_any (ops := [.ref a, .ref s4.heap.objs.size]) ht.isList.typeIs (PySem.slot_list_getitem.lookup) ?_ (by with_unfolding_all rfl)
  refine wpAny_getItem_list_slice ht.isList (Heap.IsSliceOf.new _ vl vu vs) pl pu ps (by intro z; cases z; omega) ?_ (by rw [List.size_toArray]; omega)
  refine ⟨.ref _, _, I5.laid (t' := s4.toks) (o := .lst (pick0 xs p)) (fun b ob q => Heap.get?_push_of_some _ q) (Nat.le_refl _) ?_, rfl, q _ (I5.hok.fresh (Nat.le_refl _))⟩
  refine ⟨Nat.le_trans hlen2 hz, _, 0, ?_, Heap.get?_push_size _ rfl⟩
  have h1 : its.toArray.size = xs.length := by rw [List.size_toArray]; exact hlen.symm
  rw [h1]
  have := vals_fm r (sliceRange (sliceBounds none none (some p) xs.length).1 (sliceBounds none none (some p) xs.length).2.1 (sliceBounds none none (some p) xs.length).2.2)
  simpa [pick0] using this
section
variable {K : Fg} {G : Ctx} {te ta tb tc tl ts : TE} {d e : D} {ds : List D}
theorem en_step0 {xs : List D} {p : Int} (hp : 0 < p) (h : EvD K te G (.lst xs)) (h2 : EvD K ts G (.int p)) : EvN K (tStepL0 K te ts) G (pickA xs 0 p) := fun F0 H0 F H σ s Q q =>
  h F0 H0 F H σ s _ fun v F1 H1 t1 r1 => h2 F0 H0 F1 H1 σ (s.step t1) _ fun y F3 H3 t3 r3 => ⟨p, r3, by
    obtain ⟨a, us, rfl, h3, h4⟩ := r1
    have h5 := Reps.mono t3.ff _ _ h4
    refine ⟨a, us, p, rfl, rfl, hp, .inl (.inl (t3.hh _ _ (t1.fh _ _ h3))), by rw [pick0_eq _ hp]; exact pickA_len hp, fun l hl => q l _ F3 _ ((t1.trans t3).trans (Step.newP t3.fh hl)) ((t1.trans t3).hh.free hl) (t3.fh.free hl) upd_same ?_⟩
    rw [pick0_eq _ hp]
    unfold pickA
    rw [h5.len]
    exact h5.fm _⟩
theorem en_step0T {α : Type} {enc : α → D} {xs : List α} {p : Int} (hp : 0 < p) (h : EvD K te G (lsD enc xs)) (h2 : EvD K ts G (.int p)) : EvN K (tStepL0 K te ts) G ((pickA xs 0 p).map enc) := by
  rw [← pickA_map]
  exact en_step0 hp h h2
end
/-! ### the own == of a class, whatever it says; None beside -/
section
open C8 (Cal Met Mak)
def rOwn2 (K : Fg) (C : Addr) (P : List D → D → Prop) : R2 := fun x y H Q => rEq x y H Q ∨ ∃ a b dx dy fs gs, x = .ref a ∧ y = .ref b ∧ H a = some (.ins C dx fs) ∧ H b = some (.ins C dy gs) ∧ spD K P [x, y] H (fun v H' => (∃ k : Bool, v = .bl k) ∧ Q v H') C8.E0
theorem opOwn2 {X : Cx} {K : Fg} {j k : Nat} {C : Addr} {P : List D → D → Prop} (c : Met X.prog X.w X.K X.mg X.base k C "__eq__" (spD K P) []) (hr : Room j X.A) (hk : k ≤ j) (h : X.K = K := by rfl) : OpR X (compareOp .Eq) (rOwn2 K C P) := by
  cases h
  intro pins s σ H x y v u Q I rx ry d
  rcases d with d | d
  · exact op_eq pins s σ H x y v u Q I rx ry d
  obtain ⟨a, b, dx, dy, fs, gs, rfl, rfl, ha, hb', hsp⟩ := d
  obtain ⟨f, fd, ps, ds, hc, hm, F, hb, e0⟩ := c.ex
  cases e0
  cases rx
  cases ry
  have sb : Sub X j X.A := ⟨hr, rfl⟩
  obtain ⟨mA, J, _⟩ := ins_get I.hok ha
  obtain ⟨mB, J', _⟩ := ins_get I.hok hb'
  obtain ⟨od, J, _⟩ := J.look
  obtain ⟨od', J', _⟩ := J'.look
  obtain ⟨m, hF⟩ := I.fr
  show wpAny (model X.prog X.w) X.A (richCompare .Eq _ _) (EP X pins σ Q) X.xe s
  refine PySem.W.cmp_K (op := .Eq) (tb := .ref C) sb.room.units0 hF I.ok.mod.kin J J'.type (by simp [PySem.W.notFirst]) hm.at_ hm.fn ?_
  have hl := F.len _ _ _ _ hsp
  have r2 : Vals [V.ref a, V.ref b] [Value.ref a, Value.ref b] := .cons rfl (.cons rfl .nil)
  refine wpAny_call (codeAny_mono (F.run X.A X.stack s H ⟨[.ref a, .ref b], []⟩ [.ref a, .ref b] [.ref a, .ref b] _ C8.E0 (hr.mono hk) I.env0 (by
    have := hb s [.ref a, .ref b] I.kIn (by simpa using hl)
    simpa using this) r2 hsp) fun r s' hq => ?_)
  cases r with
  | error e => exact C8.pass0 (X := X) (E := C8.E0) pins σ H s e s' I hq
  | ok fl =>
    cases fl with
    | ret w =>
      obtain ⟨z, H', I', rz, ⟨k, ez⟩, q⟩ := I.after hq
      subst ez
      cases rz
      exact ⟨.bl k, H', I', rfl, q⟩
    | next => exact False.elim hq
    | brk => exact False.elim hq
    | cont => exact False.elim hq
end
section
variable {K : Fg} {G : Ctx} {te ta tb tc tl ts : TE} {d e : D} {ds es : List D} {C : Addr} {ns : List Str}
theorem ev_own2 {P : List D → D → Prop} {k : Bool} (ha : EvD K ta G (.ins C ns ds)) (hb : EvD K tb G (.ins C ns es)) (p : P [.ins C ns ds, .ins C ns es] (.bl k)) : EvD K (tOp (rOwn2 K C P) ta tb) G (.bl k) := fun F0 H0 F H σ s Q q =>
  ha F0 H0 F H σ s _ fun v F1 H1 t1 r1 => hb F0 H0 F1 H1 σ (s.step t1) _ fun u F2 H2 t2 r2 => by
    have r1' := Rep.mono t2.ff _ _ r1
    obtain ⟨a, da, us, rfl, a1, a2, a3⟩ := id r1'
    obtain ⟨b, db, ws, rfl, b1, b2, b3⟩ := id r2
    refine .inr ⟨a, b, da, db, _, _, rfl, rfl, t2.fh _ _ a1, t2.fh _ _ b1, F2, [.ins C ns ds, .ins C ns es], .bl k, t2.fh, Reps.cons r1' (Reps.one r2), p, fun w F' H' t r => ?_⟩
    cases r
    exact ⟨⟨k, rfl⟩, q _ F' H' ((t1.trans t2).trans t) rfl⟩
theorem ev_ownN {P : List D → D → Prop} (ha : EvD K ta G .non) (hb : EvD K tb G .non) : EvD K (tOp (rOwn2 K C P) ta tb) G (.bl true) := ev_op ha hb fun F H x y s hx hy Q q => by
  cases hx
  cases hy
  exact .inl ⟨rfl, q _ F H (Step.refl s) (by show V.bl _ = V.bl _; simp)⟩
end
end Cw
set_option maxHeartbeats 4000000
namespace Cw
open PySem PySem.Spec PyProof.Rows L2
def p__law_random (ds : List D) (d : D) : Prop := ∃ b v : Int, ds = [.int b] ∧ (1 ≤ b ∧ b ≤ 1000) ∧ d = .int v ∧ 0 ≤ v ∧ v < b
def p__law_poly (ds : List D) (d : D) : Prop := ∃ (p most : Int) (l : List Int), ds = [.int p, .int most] ∧ (Pm p ∧ 0 ≤ most ∧ most ≤ 10) ∧ Nrm p l ∧ (l.length : Int) ≤ most + 1 ∧ d = inD l
def p__law_curve (ds : List D) (d : D) : Prop := ∃ c : Cur, ds = [.int 5] ∧ CvOk c ∧ c.2.length ≤ 6 ∧ d = toldD c
def p__law_triple (ds : List D) (d : D) : Prop := ∃ (c : Cur) (most : Int) (T : Tri), ds = [toldD c, .int most] ∧ (Pm c.1 ∧ 0 ≤ most ∧ most ≤ 10) ∧ TrIn c T 11 ∧ d = triD T
def p__law_right (ds : List D) (d : D) : Prop := ds = [] ∧ d = .bl true
/-! ### a list that is drawn from, changed in place by the defs that are handed it -/
def GHas (H : Hp) (g : Addr) (n : Nat) : Prop := ∃ x s c : Int, H g = some (.lst [.int x, .int s, .int c]) ∧ 0 ≤ x ∧ 0 ≤ s ∧ s < 2 ^ 32 ∧ 0 ≤ c ∧ c ≤ n
theorem GHas.mono {H : Hp} {g : Addr} {n m : Nat} (h : GHas H g n) (k : n ≤ m) : GHas H g m := by
  obtain ⟨x, s, c, h1, h2, h3, h4, h5, h6⟩ := h
  exact ⟨x, s, c, h1, h2, h3, h4, h5, by omega⟩
def spG (K : Fg) (k : Nat) (P : List D → D → Prop) : Sp := fun vs H Q _ => ∃ F g us ds n, vs = .ref g :: us ∧ Same F (del H g) ∧ GHas H g n ∧ n + k ≤ 2 ^ 30 ∧ Reps K F ds us ∧ (∃ d, P ds d) ∧
  ∀ v d F' H', P ds d → Step F (del H g) F' (del H' g) → GHas H' g (n + k) → Rep K F' d v → Q v H'
section
variable {K : Fg} {g : Addr} {i : Nat} {G : Ctx} {n n1 n2 : Nat} {te ta tb tc : TE} {tr : TA} {t u r : TS} {d e : D} {ds : List D}
theorem del_upd {H : Hp} {o : HO} : del (upd H g o) g = del H g := funext fun b => by
  by_cases q : b = g
  · subst q; rw [del_x, del_x]
  · rw [del_ne q, del_ne q, upd_ne q]
theorem none_of_del {F H : Hp} (s : Same F (del H g)) : F g = none := by
  cases h : F g with
  | none => rfl
  | some o =>
    have := s _ _ h
    rw [del_x] at this
    cases this
theorem Step.dl {F H F' H' : Hp} {o : HO} (hf : F g = none) (hg : H g = some o) (t : Step F H F' H') (ht : ∀ vs, o ≠ .tup vs := by intro _ h; cases h) : Step F (del H g) F' (del H' g) ∧ H' g = some o := by
  have hf' := (t.kp hg hf ht).2
  refine ⟨⟨t.ff, fun b u e => ?_, fun b u e => ?_, fun a m => ?_⟩, t.hh _ _ hg⟩
  · by_cases q : b = g
    · subst q; rw [del_x] at e; cases e
    · rw [del_ne q] at e ⊢; exact t.hh b u e
  · rw [del_ne (ne_of_none e hf')]; exact t.fh b u e
  · rcases t.nw a m with z | z
    · exact .inl z
    · refine .inr ?_
      unfold NewAt
      rw [del_ne (fun y => by
        subst y
        rcases z with z | ⟨vs, z⟩
        · rw [hg] at z; cases z
        · rw [hg] at z; exact ht vs (Option.some.inj z))]
      exact z
theorem SOk.dl {F0 H0 F H : Hp} {σ : L2.St} (s : SOk K F0 H0 F (del H g) σ G) : SOk K F0 H0 F H σ G where
  st := ⟨s.st.ff, s.st.hh.trans del_same, s.st.fh.trans del_same, s.st.nw⟩
  len := s.len
  sl := fun j c e => by
    obtain ⟨o, h1, h2⟩ := s.sl j c e
    refine ⟨o, h1, ?_⟩
    cases c with
    | un => trivial
    | val d => exact h2
    | prv k es =>
      obtain ⟨b, ws, rfl, k1, k2, k3, k4⟩ := h2
      exact ⟨b, ws, rfl, del_same _ _ k1, k2, k3, k4⟩
  ap := s.ap
/-- an expression that may draw: what it may be worth, how far the count goes -/
def EvG (K : Fg) (g : Addr) (i : Nat) (te : TE) (G : Ctx) (n n' : Nat) (P : D → Prop) : Prop := ∀ F0 H0 F H σ, SOk K F0 H0 F (del H g) σ G → σ[i]? = some (some (.ref g)) → GHas H g n → ∀ Q : VK, (∀ v d F' H', P d → Step F (del H g) F' (del H' g) → GHas H' g n' → Rep K F' d v → Q v H') → te σ H Q
def EvGA (K : Fg) (g : Addr) (i : Nat) (ta : TA) (G : Ctx) (n n' : Nat) (P : List D → Prop) : Prop := ∀ F0 H0 F H σ, SOk K F0 H0 F (del H g) σ G → σ[i]? = some (some (.ref g)) → GHas H g n → ∀ Q : List V → Hp → Prop, (∀ vs ds F' H', P ds → Step F (del H g) F' (del H' g) → GHas H' g n' → Reps K F' ds vs → Q vs H') → ta σ H Q
/-- a statement that may draw and hands back -/
def StG (K : Fg) (g : Addr) (i : Nat) (t : TS) (G : Ctx) (n N : Nat) (R : D → Prop) : Prop := ∀ F0 H0 F H σ (E : Ends), SOk K F0 H0 F (del H g) σ G → σ[i]? = some (some (.ref g)) → GHas H g n → (∀ v d F' H', R d → Step F0 H0 F' (del H' g) → GHas H' g N → Rep K F' d v → E.rt v H') → t E σ H
/-- .. and goes on -/
def StGN (K : Fg) (g : Addr) (i : Nat) (t : TS) (G : Ctx) (n n' : Nat) (O : Ctx → Prop) : Prop := ∀ F0 H0 F H σ (E : Ends), SOk K F0 H0 F (del H g) σ G → σ[i]? = some (some (.ref g)) → GHas H g n → (∀ σ' F' H' G', O G' → Same F F' → SOk K F0 H0 F' (del H' g) σ' G' → σ'[i]? = some (some (.ref g)) → GHas H' g n' → E.nx σ' H') → t E σ H
theorem eg_ev (h : EvD K te G d) : EvG K g i te G n n (fun x => x = d) := fun F0 H0 F H σ s hi hg Q q => by
  obtain ⟨x, y, z, k1, k2⟩ := hg
  refine h F0 H0 F H σ s.dl Q fun v F' H' t r => ?_
  obtain ⟨a, b⟩ := t.dl (none_of_del s.fh) k1
  exact q v d F' H' rfl a ⟨x, y, z, b, k2⟩ r
theorem EvG.imp {P P' : D → Prop} (h : EvG K g i te G n n1 P) (k : ∀ d, P d → P' d) : EvG K g i te G n n1 P' := fun F0 H0 F H σ s hi hg Q q => h F0 H0 F H σ s hi hg Q fun v d F' H' p => q v d F' H' (k d p)
theorem EvG.up {P : D → Prop} (h : EvG K g i te G n n1 P) (k : n1 ≤ n2) : EvG K g i te G n n2 P := fun F0 H0 F H σ s hi hg Q q => h F0 H0 F H σ s hi hg Q fun v d F' H' p t hh => q v d F' H' p t (hh.mono k)
theorem ega_nil : EvGA K g i tNil G n n (fun ds => ds = []) := fun F0 H0 F H σ s hi hg Q q => q [] [] F H rfl (Step.refl s.fh) hg rfl
theorem ega_cons {P : D → Prop} {PA : D → List D → Prop} (h : EvG K g i te G n n1 P) (k : ∀ d, P d → EvGA K g i tr G n1 n2 (PA d)) : EvGA K g i (tCons te tr) G n n2 (fun ds => ∃ d es, ds = d :: es ∧ P d ∧ PA d es) := fun F0 H0 F H σ s hi hg Q q =>
  h F0 H0 F H σ s hi hg _ fun v d F1 H1 p t1 g1 r1 => k d p F0 H0 F1 H1 σ (s.step t1) hi g1 _ fun vs es F2 H2 pa t2 g2 r2 => q (v :: vs) (d :: es) F2 H2 ⟨d, es, rfl, p, pa⟩ (t1.trans t2) g2 (Reps.cons (Rep.mono t2.ff _ _ r1) r2)
theorem ega_ev (h : EvA K tr G ds) : EvGA K g i tr G n n (fun x => x = ds) := fun F0 H0 F H σ s hi hg Q q => by
  obtain ⟨x, y, z, k1, k2⟩ := hg
  refine h F0 H0 F H σ s.dl Q fun vs F' H' t r => ?_
  obtain ⟨a, b⟩ := t.dl (none_of_del s.fh) k1
  exact q vs ds F' H' rfl a ⟨x, y, z, b, k2⟩ r
/-- a def that draws -/
theorem eg_call {k : Nat} {P : List D → D → Prop} {E : XK} {PA : List D → Prop} (hk : n1 + k ≤ 2 ^ 30) (h : EvGA K g i tr G n n1 PA) (p : ∀ ds, PA ds → ∃ d, P ds d) : EvG K g i (tCall (spG K k P) [] E (tCons (tVar i) tr)) G n (n1 + k) (fun d => ∃ ds, PA ds ∧ P ds d) := fun F0 H0 F H σ s hi hg Q q =>
  ⟨.ref g, hi, h F0 H0 F H σ s hi hg _ fun vs ds F1 H1 pa t1 g1 r1 => ⟨F1, g, vs, ds, n1, by rw [List.append_nil], t1.fh, g1, hk, r1, p ds pa, fun v d F2 H2 pd t2 g2 r2 => q v d F2 H2 ⟨ds, pa, pd⟩ (t1.trans t2) g2 r2⟩⟩
/-- a def that does not -/
theorem eg_callD {P : List D → D → Prop} {E : XK} {PA : List D → Prop} {P' : D → Prop} (h : EvGA K g i tr G n n1 PA) (p : ∀ ds, PA ds → ∃ d, P ds d ∧ P' d) : EvG K g i (tCall (spD K P) [] E tr) G n n1 P' := fun F0 H0 F H σ s hi hg Q q =>
  h F0 H0 F H σ s hi hg _ fun vs ds F1 H1 pa t1 g1 r1 => by
    obtain ⟨d, p1, p2⟩ := p ds pa
    obtain ⟨x, y, z, k1, k2⟩ := g1
    refine ⟨F1, ds, d, t1.fh.trans del_same, by rw [List.append_nil]; exact r1, p1, fun v F2 H2 t2 r2 => ?_⟩
    obtain ⟨a, b⟩ := t2.dl (none_of_del t1.fh) k1
    exact q v d F2 H2 p2 (t1.trans a) ⟨x, y, z, b, k2⟩ r2
theorem eg_op {ro : R2} {P1 P2 P : D → Prop} (h : EvG K g i ta G n n1 P1) (k : EvG K g i tb G n1 n2 P2) (op : ∀ a b, P1 a → P2 b → ∃ d, Op2 K ro a b d ∧ P d) : EvG K g i (tOp ro ta tb) G n n2 P := fun F0 H0 F H σ s hi hg Q q =>
  h F0 H0 F H σ s hi hg _ fun v a F1 H1 p1 t1 g1 r1 => k F0 H0 F1 H1 σ (s.step t1) hi g1 _ fun u b F2 H2 p2 t2 g2 r2 => by
    obtain ⟨d, o, p⟩ := op a b p1 p2
    obtain ⟨x, y, z, k1, k2⟩ := g2
    refine o F2 H2 v u (t2.fh.trans del_same) (Rep.mono t2.ff _ _ r1) r2 Q fun w F3 H3 t3 r3 => ?_
    obtain ⟨a', b'⟩ := t3.dl (none_of_del t2.fh) k1
    exact q w d F3 H3 p ((t1.trans t2).trans a') ⟨x, y, z, b', k2⟩ r3
theorem eg_tup {PA : List D → Prop} (h : EvGA K g i tr G n n1 PA) (hl : ∀ ds, PA ds → ds.length ≤ sizeLine) : EvG K g i (tTup tr) G n n1 (fun d => ∃ ds, d = .tup ds ∧ PA ds) := fun F0 H0 F H σ s hi hg Q q =>
  h F0 H0 F H σ s hi hg _ fun vs ds F1 H1 pa t1 g1 r1 => by
    refine ⟨by rw [Reps.len r1]; exact hl ds pa, fun p hp => ?_⟩
    obtain ⟨x, y, z, k1, k2⟩ := g1
    have t2 : Step F1 H1 (upd F1 p (.tup vs)) (upd H1 p (.tup vs)) := Step.newF (t1.fh.trans del_same) hp
    obtain ⟨a, b⟩ := t2.dl (none_of_del t1.fh) k1
    exact q (.ref p) (.tup ds) _ _ ⟨ds, rfl, pa⟩ (t1.trans a) ⟨x, y, z, b, k2⟩ ⟨p, vs, rfl, .inl (.inl upd_same), Reps.mono t2.ff _ _ r1⟩
theorem eg_callB1 {ro : List V → Hp → VK → Prop} {P1 P : D → Prop} (h : EvG K g i te G n n1 P1) (op : ∀ d, P1 d → ∃ e, OpA K ro [d] e ∧ P e) : EvG K g i (tCB ro (tCons te tNil)) G n n1 P := fun F0 H0 F H σ s hi hg Q q =>
  h F0 H0 F H σ s hi hg _ fun v d F1 H1 p t1 g1 r1 => by
    obtain ⟨e, o, pe⟩ := op d p
    obtain ⟨x, y, z, k1, k2⟩ := g1
    refine o F1 H1 [v] (t1.fh.trans del_same) (Reps.one r1) Q fun w F2 H2 t2 r2 => ?_
    obtain ⟨a, b⟩ := t2.dl (none_of_del t1.fh) k1
    exact q w e F2 H2 pe (t1.trans a) ⟨x, y, z, b, k2⟩ r2
theorem ev_bits {b : Int} (h : EvD K te G (.int b)) : EvD K (tBits te) G (.int (Builtin.Int.intBits b : Nat)) := fun F0 H0 F H σ s Q q => h F0 H0 F H σ s _ fun v F1 H1 t1 r1 => ⟨b, r1, q _ F1 H1 t1 rfl⟩
theorem ev_fdivW {a b : Int} (hc : CDivW a b) (ha : EvD K ta G (.int a)) (hb : EvD K tb G (.int b)) : EvD K (tOp (rI CDivW fun i j => .int (i / j)) ta tb) G (.int (a / b)) := ev_op ha hb (op_I hc fun _ => rfl)
/-! statements -/
theorem sg_ret {N : Nat} {P R : D → Prop} (h : EvG K g i te G n n1 P) (hn : n1 ≤ N) (k : ∀ d, P d → R d) : StG K g i (tRet te) G n N R := fun F0 H0 F H σ E s hi hg q => h F0 H0 F H σ s hi hg _ fun v d F1 H1 p t1 g1 r1 => q v d F1 H1 (k d p) (s.st.trans t1) (g1.mono hn) r1
theorem sg_set {N j : Nat} {P R : D → Prop} (hj : j ≠ i) (h : EvG K g i te G n n1 P) (k : ∀ d, P d → StG K g i r (G.set j (.val d)) n1 N R) : StG K g i (tSeq (tAsg te (gName j)) r) G n N R := fun F0 H0 F H σ E s hi hg q => h F0 H0 F H σ s hi hg _ fun v d F1 H1 p t1 g1 r1 =>
  k d p F0 H0 F1 H1 (σ.set j (some v)) E ((s.step t1).set r1) (by rw [List.getElem?_set_ne hj]; exact hi) g1 q
theorem sg_seqN {N : Nat} {O : Ctx → Prop} {R : D → Prop} (h : StGN K g i t G n n1 O) (k : ∀ G', O G' → StG K g i r G' n1 N R) : StG K g i (tSeq t r) G n N R := fun F0 H0 F H σ E s hi hg q =>
  h F0 H0 F H σ { E with nx := r E } s hi hg fun σ' F' H' G' o _ s' hi' hg' => k G' o F0 H0 F' H' σ' E s' hi' hg' q
theorem SOk.keep {F0 H0 F H : Hp} {σ : L2.St} {o : HO} (s : SOk K F0 H0 F (del H g) σ G) (hg : H g = some o) : SOk K F0 (upd H0 g o) F H σ G where
  st := ⟨s.st.ff, fun b u e => by
    by_cases q : b = g
    · subst q; rw [upd_same] at e; rw [hg]; exact e
    · rw [upd_ne q] at e; exact del_same _ _ (s.st.hh b u e), s.st.fh.trans del_same, fun a m => by
    rcases s.st.nw a m with z | z
    · exact .inl z
    · refine .inr ?_
      unfold NewAt
      rw [upd_ne (fun y => by subst y; exact m (none_of_del s.st.fh))]
      exact z⟩
  len := s.len
  sl := fun j c e => by
    obtain ⟨o', h1, h2⟩ := s.sl j c e
    refine ⟨o', h1, ?_⟩
    cases c with
    | un => trivial
    | val d => exact h2
    | prv k es =>
      obtain ⟨b, ws, rfl, k1, k2, k3, k4⟩ := h2
      refine ⟨b, ws, rfl, del_same _ _ k1, k2, ?_, k4⟩
      rw [upd_ne (fun y => by subst y; rw [del_x] at k1; cases k1)]
      exact k3
  ap := s.ap
theorem Step.unkeep {F0 H0 F' H' : Hp} {o : HO} (h0 : H0 g = none) (f0 : F0 g = none) (t : Step F0 (upd H0 g o) F' H') (ht : ∀ vs, o ≠ .tup vs := by intro _ h; cases h) : Step F0 H0 F' (del H' g) ∧ H' g = some o := by
  have k := t.kp (upd_same (H := H0) (a := g) (o := o)) f0 ht
  refine ⟨⟨t.ff, fun b u e => ?_, fun b u e => ?_, fun a m => ?_⟩, k.1⟩
  · have q := ne_of_none e h0
    rw [del_ne q]
    exact t.hh b u (by rw [upd_ne q]; exact e)
  · rw [del_ne (ne_of_none e k.2)]; exact t.fh b u e
  · rcases t.nw a m with z | z
    · exact .inl z
    · refine .inr ?_
      have q : a ≠ g := fun y => by subst y; exact m k.2
      unfold NewAt at z
      rw [upd_ne q] at z
      exact z
/-- the rest draws no more -/
theorem sg_rest {N : Nat} (hn : n ≤ N) (h : StD K t G (.rt d)) : StG K g i t G n N (fun x => x = d) := fun F0 H0 F H σ E s hi hg q => by
  obtain ⟨x, y, z, k1, k2⟩ := hg
  have h0 : H0 g = none := by
    cases e : H0 g with
    | none => rfl
    | some u =>
      have := s.st.hh _ _ e
      rw [del_x] at this
      cases this
  have f0 : F0 g = none := none_of_del (s.st.ff.trans s.st.fh)
  refine h F0 (upd H0 g _) F H σ E (s.keep k1) fun v F' H' t f rv => ?_
  obtain ⟨a, b⟩ := t.unkeep h0 f0
  exact q v d F' H' rfl a (GHas.mono ⟨x, y, z, b, k2⟩ hn) rv
theorem sg_par {N j l : Nat} {P1 P2 R : D → Prop} (hj : j ≠ i) (hl : l ≠ i) (h : EvG K g i ta G n n1 P1) (k : EvG K g i tb G n1 n2 P2) (m : ∀ d e, P1 d → P2 e → StG K g i r ((G.set j (.val d)).set l (.val e)) n2 N R) : StG K g i (tSeq (tPar j l (tCons ta (tCons tb tNil))) r) G n N R := fun F0 H0 F H σ E s hi hg q =>
  h F0 H0 F H σ s hi hg _ fun v d F1 H1 p1 t1 g1 r1 => k F0 H0 F1 H1 σ (s.step t1) hi g1 _ fun u e F2 H2 p2 t2 g2 r2 => ⟨v, u, rfl,
    m d e p1 p2 F0 H0 F2 H2 _ E ((((s.step t1).step t2).set (Rep.mono t2.ff _ _ r1)).set r2) (by rw [List.getElem?_set_ne hl, List.getElem?_set_ne hj]; exact hi) g2 q⟩
/-- a loop of m turns that draws -/
theorem sgn_for {m k j : Nat} {body : TS} {O : Ctx → Prop} (hm : (m : Int) < 2 ^ 62) (hj : j ≠ i) (hta : EvD K ta G (.int m)) (h0 : O G) (hb : ∀ (G' : Ctx) (x : Int) (n' : Nat), O G' → n' + k ≤ n + m * k → StGN K g i body (G'.set j (.val (.int x))) n' (n' + k) O) :
    StGN K g i (tFor (iRng1 (tCons ta tNil)) (gName j) body) G n (n + m * k) O := fun F0 H0 F H σ E s hi hg q => by
  refine eg_ev (K := K) (g := g) (i := i) (n := n) hta F0 H0 F H σ s hi hg _ fun v d F1 H1 pd t1 g1 r1 => ?_
  subst pd
  cases r1
  have s := s.step t1
  have hg := g1
  have q : ∀ (σ' : L2.St) (F' H' : Hp) (G' : Ctx), O G' → Same F1 F' → SOk K F0 H0 F' (del H' g) σ' G' → σ'[i]? = some (some (V.ref g)) → GHas H' g (n + m * k) → E.nx σ' H' := fun σ' F' H' G' o sf => q σ' F' H' G' o (t1.ff.trans sf)
  generalize F1 = F at s hg q
  generalize H1 = H at s hg
  refine ⟨(m : Int), rfl, by omega, hm, ?_⟩
  rw [Int.toNat_natCast]
  refine ⟨fun idx mm σ' H' => mm = m - idx ∧ idx ≤ m ∧ ∃ F' G', O G' ∧ Same F F' ∧ SOk K F0 H0 F' (del H' g) σ' G' ∧ σ'[i]? = some (some (.ref g)) ∧ GHas H' g (n + idx * k), ⟨m, rfl, Nat.zero_le _, F, G, h0, Same.refl _, s, hi, by rw [Nat.zero_mul]; exact hg⟩, ?_⟩
  rintro idx mm σ' H' ⟨rfl, hidx, F', G', o, sf, s', hi', hg'⟩
  by_cases hlt : idx < m
  · have hk : n + idx * k + k ≤ n + m * k := by
      have := Nat.mul_le_mul_right k hlt
      rw [Nat.succ_mul] at this
      omega
    refine .inr ⟨hlt, fun σ2 H2 => ∃ F' G', O G' ∧ Same F F' ∧ SOk K F0 H0 F' (del H2 g) σ2 G' ∧ σ2[i]? = some (some (.ref g)) ∧ GHas H2 g (n + (idx + 1) * k), fun σ2 H2 ⟨F2, G2, p1, p2, p3, p4, p5⟩ => ⟨m - (idx + 1), by omega, rfl, hlt, F2, G2, p1, p2, p3, p4, p5⟩, ?_⟩
    rintro x H2 ⟨rfl, rfl⟩
    refine hb G' _ (n + idx * k) o hk F0 H0 F' H2 _ _ (s'.set rfl) (by rw [List.getElem?_set_ne hj]; exact hi') hg' fun σ3 F3 H3 G3 o3 f3 s3 hi3 hg3 => ?_
    exact ⟨F3, G3, o3, sf.trans f3, s3, hi3, by rw [Nat.succ_mul, ← Nat.add_assoc]; exact hg3⟩
  · have e : idx = m := by omega
    subst e
    exact .inl ⟨Nat.le_refl _, q σ' F' H' G' o sf s' hi' hg'⟩
/-- [f(..) for x in range(f(..))] where both may draw -/
theorem eg_lc {M k n0 : Nat} {j : Nat} {vs : List Nat} {P : D → Prop} {P1 : D → Prop} (hM : M ≤ 1000) (hv : ∀ σ : L2.St, σ.length = G.length → (L2.wipe σ vs)[i]? = σ[i]?) (hj : j ≠ i) (hjv : j ∈ vs) (ha : EvG K g i ta G n n0 P1) (h1 : ∀ d, P1 d → ∃ m : Int, d = .int m ∧ 0 ≤ m ∧ m ≤ M)
    (he : ∀ (x : Int) (n' : Nat), n' + k ≤ n0 + M * k → EvG K g i te ((wipeC G vs).set j (.val (.int x))) n' (n' + k) P) :
    EvG K g i (tLc (iRng1 (tCons ta tNil)) (gName j) tYes te vs) G n (n0 + M * k) (fun d => ∃ m : Int, P1 (.int m) ∧ ∃ ds, d = .lst ds ∧ (ds.length : Int) = m ∧ ∀ x ∈ ds, P x) := fun F0 H0 F H σ s hi hg Q q => by
  refine ha F0 H0 F H σ s hi hg _ fun v d F1 H1 p1 t1 g1 r1 => ?_
  obtain ⟨m, rfl, m0, m1⟩ := h1 d p1
  cases r1
  refine ⟨m, rfl, by omega, by omega, ?_⟩
  obtain ⟨w, rfl⟩ : ∃ w : Nat, m = (w : Int) := ⟨m.toNat, by omega⟩
  rw [Int.toNat_natCast]
  intro D hD
  have s1 := s.step t1
  have hgD : D ≠ g := fun z => by
    subst z
    obtain ⟨x, y, z, k1, _⟩ := g1
    rw [k1] at hD
    cases hD
  have gup : ∀ {H : Hp} {o : HO} {n : Nat}, GHas H g n → GHas (upd H D o) g n := fun {H o n} gh => by
    obtain ⟨x, y, z, k1, k2⟩ := gh
    exact ⟨x, y, z, by rw [upd_ne (Ne.symm hgD)]; exact k1, k2⟩
  have dup : ∀ {H : Hp} {o : HO}, del (upd H D o) g = upd (del H g) D o := fun {H o} => funext fun b => by
    by_cases q : b = g
    · subst q; rw [del_x, upd_ne (Ne.symm hgD), del_x]
    · rw [del_ne q]
      by_cases q2 : b = D
      · subst q2; rw [upd_same, upd_same]
      · rw [upd_ne q2, upd_ne q2, del_ne q]
  have hDd : (del H1 g) D = none := by rw [del_ne hgD]; exact hD
  refine ⟨fun idx mm H' => mm = w - idx ∧ idx ≤ w ∧ ∃ F' us ds, Step F1 (del H1 g) F' (del H' g) ∧ H' D = some (.lst us) ∧ F' D = none ∧ Reps K F' ds us ∧ ds.length = idx ∧ (∀ x ∈ ds, P x) ∧ GHas H' g (n0 + idx * k), ⟨w, rfl, Nat.zero_le _, F1, [], [], by rw [dup]; exact Step.newP t1.fh hDd, upd_same, t1.fh.free hDd, rfl, rfl, fun _ z => absurd z List.not_mem_nil, by rw [Nat.zero_mul]; exact gup g1⟩, ?_⟩
  rintro idx mm H' ⟨rfl, hidx, F', us, ds, t', hu, hf, ru, hl, hp, hg'⟩
  by_cases hlt : idx < w
  · have hk : n0 + idx * k + k ≤ n0 + M * k := by
      have := Nat.mul_le_mul_right k (show idx + 1 ≤ M by omega)
      rw [Nat.succ_mul] at this
      omega
    refine .inr ⟨hlt, fun H2 => ∃ F' us ds, Step F1 (del H1 g) F' (del H2 g) ∧ H2 D = some (.lst us) ∧ F' D = none ∧ Reps K F' ds us ∧ ds.length = idx + 1 ∧ (∀ x ∈ ds, P x) ∧ GHas H2 g (n0 + (idx + 1) * k), fun H2 ⟨F2, us2, ds2, p⟩ => ⟨w - (idx + 1), by omega, rfl, hlt, F2, us2, ds2, p⟩, ?_⟩
    rintro x H2 ⟨rfl, rfl⟩
    have s2 := ((s1.step t').wipe vs).set (i := j) (d := .int (0 + (idx : Int))) (v := .int (0 + (idx : Int))) rfl
    have hi2 : ((L2.wipe σ vs).set j (some (V.int (0 + (idx : Int)))))[i]? = some (some (.ref g)) := by
      rw [List.getElem?_set_ne hj, hv σ s.len]; exact hi
    refine ⟨wipe_back (is := [j]) (by rw [List.length_set]) (fun l hl => List.getElem?_set_ne (fun z => hl (by simp [z]))) (fun l hl => by simp at hl; subst hl; exact hjv), ?_⟩
    dsimp only [tYes]
    rw [if_pos rfl]
    refine he _ (n0 + idx * k) hk F0 H0 F' H2 _ s2 hi2 hg' _ fun y dy F3 H3 py t3 g3 r3 => ?_
    have hD2 : (del H2 g) D = some (.lst us) := by rw [del_ne hgD]; exact hu
    obtain ⟨k1, k2⟩ := t3.kp hD2 hf
    rw [del_ne hgD] at k1
    refine ⟨us, k1, by rw [ru.len, hl]; exact Nat.lt_of_lt_of_le (show idx < 1000 by omega) (by decide), F3, us ++ [y], ds ++ [dy], ?_, upd_same, k2, (Reps.mono t3.ff _ _ ru).app (Reps.one r3), by rw [List.length_append, hl]; rfl, fun z hz => ?_, ?_⟩
    · rw [dup]
      exact (t'.trans t3).mutP hDd k2
    · rcases List.mem_append.mp hz with a | a
      · exact hp z a
      · rw [List.mem_singleton.mp a]; exact py
    · rw [Nat.succ_mul, ← Nat.add_assoc]
      exact gup g3
  · have e : idx = w := by omega
    subst e
    have hD2 : (del H' g) D = some (.lst us) := by rw [del_ne hgD]; exact hu
    refine .inl ⟨Nat.le_refl _, q (.ref D) (.lst ds) (upd F' D (.lst us)) H' ⟨_, p1, ds, rfl, by rw [hl], hp⟩ (t1.trans (t'.pub hDd hf hD2)) (hg'.mono ?_) ⟨D, us, rfl, upd_same, Reps.mono (same_new hf) _ _ ru⟩⟩
    have := Nat.mul_le_mul_right k (show idx ≤ M by omega)
    omega
/-! the drawn list itself -/
theorem eg_cell {j : Nat} (hj : j < 3) : EvG K g i (tOp (rIxL K) (tVar i) (tC (.int (j : Int)))) G n n (fun d => ∃ v : Int, d = .int v ∧ 0 ≤ v ∧ (j = 1 → v < 2 ^ 32) ∧ (j = 2 → v ≤ n)) := fun F0 H0 F H σ s hi hg Q q => by
  obtain ⟨x, y, z, k1, k2, k3, k4, k5, k6⟩ := hg
  have hg : GHas H g n := ⟨x, y, z, k1, k2, k3, k4, k5, k6⟩
  obtain ⟨v, hv, h1, h2, h3⟩ : ∃ v : Int, atI [V.int x, V.int y, V.int z] (j : Int) = some (.int v) ∧ 0 ≤ v ∧ (j = 1 → v < 2 ^ 32) ∧ (j = 2 → v ≤ n) := by
    have hj' : j = 0 ∨ j = 1 ∨ j = 2 := by omega
    rcases hj' with rfl | rfl | rfl
    · exact ⟨x, rfl, k2, fun h => by omega, fun h => by omega⟩
    · exact ⟨y, rfl, k3, fun _ => k4, fun h => by omega⟩
    · exact ⟨z, rfl, k5, fun h => by omega, fun _ => k6⟩
  exact ⟨.ref g, hi, g, _, (j : Int), .int v, rfl, rfl, .inl (.inl k1), hv, q (.int v) (.int v) F H ⟨v, rfl, h1, h2, h3⟩ (Step.refl s.fh) hg rfl⟩
theorem ghas_set {H : Hp} {j : Nat} {v : Int} {vs : List V} (hj : j < 3) (h : GHas H g n) (e : H g = some (.lst vs)) (h0 : 0 ≤ v) (h1 : j = 1 → v < 2 ^ 32) (h2 : j = 2 → v ≤ n1) (hn : n ≤ n1) : GHas (upd H g (.lst (vs.set j (.int v)))) g n1 := by
  obtain ⟨x, y, z, k1, k2, k3, k4, k5, k6⟩ := h
  rw [k1] at e
  cases e
  have hj' : j = 0 ∨ j = 1 ∨ j = 2 := by omega
  rcases hj' with rfl | rfl | rfl
  · exact ⟨v, y, z, upd_same, h0, k3, k4, k5, by omega⟩
  · exact ⟨x, v, z, upd_same, k2, h0, h1 rfl, k5, by omega⟩
  · exact ⟨x, y, v, upd_same, k2, k3, k4, h0, h2 rfl⟩
theorem raw_gset {j : Nat} {P : D → Prop} (hj : j < 3) (h : EvG K g i te G n n1 P) (ok : ∀ d, P d → ∃ v : Int, d = .int v ∧ 0 ≤ v ∧ (j = 1 → v < 2 ^ 32) ∧ (j = 2 → v ≤ n2)) (hn : n1 ≤ n2) {F0 H0 F H : Hp} {σ : L2.St} (s : SOk K F0 H0 F (del H g) σ G) (hi : σ[i]? = some (some (.ref g))) (hg : GHas H g n) {E : Ends}
    (q : ∀ F' H', Step F (del H g) F' (del H' g) → GHas H' g n2 → E.nx σ H') : tAsg te (gSub (tVar i) (tC (.int (j : Int))) rSetL) E σ H := by
  refine h F0 H0 F H σ s hi hg _ fun v d F1 H1 p t1 g1 r1 => ?_
  obtain ⟨w, rfl, w0, w1, w2⟩ := ok d p
  cases r1
  obtain ⟨x, y, z, k1, k2⟩ := id g1
  refine ⟨.ref g, hi, g, [.int x, .int y, .int z], (j : Int), j, rfl, rfl, k1, ?_, q F1 _ (by rw [del_upd]; exact t1) (ghas_set hj g1 k1 w0 w1 w2 hn)⟩
  have hj' : j = 0 ∨ j = 1 ∨ j = 2 := by omega
  rcases hj' with rfl | rfl | rfl <;> rfl
theorem sg_gset {j N : Nat} {P R : D → Prop} (hj : j < 3) (h : EvG K g i te G n n1 P) (ok : ∀ d, P d → ∃ v : Int, d = .int v ∧ 0 ≤ v ∧ (j = 1 → v < 2 ^ 32) ∧ (j = 2 → v ≤ n2)) (hn : n1 ≤ n2) (k : StG K g i r G n2 N R) : StG K g i (tSeq (tAsg te (gSub (tVar i) (tC (.int (j : Int))) rSetL)) r) G n N R := fun F0 H0 F H σ E s hi hg q =>
  raw_gset hj h ok hn s hi hg (E := { E with nx := r E }) fun F' H' t gg => k F0 H0 F' H' σ E (s.step t) hi gg q
theorem sg_seqR {N : Nat} {R : D → Prop} (h : StG K g i t G n N R) : StG K g i (tSeq t r) G n N R := fun F0 H0 F H σ E s hi hg q => h F0 H0 F H σ { E with nx := r E } s hi hg q
theorem sg_if {N : Nat} {P R : D → Prop} (h : EvG K g i te G n n1 P) (hb : ∀ d, P d → ∃ b : Bool, d = .bl b) (k1 : StG K g i (tSeq t r) G n1 N R) (k2 : StG K g i (tSeq u r) G n1 N R) : StG K g i (tSeq (tIfS (tTest te) t u) r) G n N R := fun F0 H0 F H σ E s hi hg q =>
  h F0 H0 F H σ s hi hg _ fun v d F1 H1 p t1 g1 r1 => by
    obtain ⟨b, rfl⟩ := hb d p
    cases r1
    refine ⟨b, rfl, ?_⟩
    cases b with
    | true => exact iteT (k1 F0 H0 F1 H1 σ E (s.step t1) hi g1 q)
    | false => exact iteF (k2 F0 H0 F1 H1 σ E (s.step t1) hi g1 q)
theorem sg_next {N : Nat} {R : D → Prop} (h : StG K g i r G n N R) : StG K g i (tSeq tNext r) G n N R := fun F0 H0 F H σ E s hi hg q => h F0 H0 F H σ E s hi hg q
theorem sgn_gset {j : Nat} {P : D → Prop} {O : Ctx → Prop} {n3 : Nat} (hj : j < 3) (h : EvG K g i te G n n1 P) (ok : ∀ d, P d → ∃ v : Int, d = .int v ∧ 0 ≤ v ∧ (j = 1 → v < 2 ^ 32) ∧ (j = 2 → v ≤ n2)) (hn : n1 ≤ n2) (k : StGN K g i r G n2 n3 O) : StGN K g i (tSeq (tAsg te (gSub (tVar i) (tC (.int (j : Int))) rSetL)) r) G n n3 O := fun F0 H0 F H σ E s hi hg q =>
  raw_gset hj h ok hn s hi hg (E := { E with nx := r E }) fun F' H' t gg => k F0 H0 F' H' σ E (s.step t) hi gg fun σ2 F2 H2 G2 o f => q σ2 F2 H2 G2 o (t.ff.trans f)
theorem sgn_set {j : Nat} {P : D → Prop} {O : Ctx → Prop} (hj : j ≠ i) (h : EvG K g i te G n n1 P) (k : ∀ d, P d → ∃ G', O G' ∧ Weak (G.set j (.val d)) G') : StGN K g i (tAsg te (gName j)) G n n1 O := fun F0 H0 F H σ E s hi hg q => h F0 H0 F H σ s hi hg _ fun v d F1 H1 p t1 g1 r1 => by
  obtain ⟨G', o, w⟩ := k d p
  exact q (σ.set j (some v)) F1 H1 G' o t1.ff (((s.step t1).set r1).weak w) (by rw [List.getElem?_set_ne hj]; exact hi) g1
theorem sgn_setS {j : Nat} {P : D → Prop} {O : Ctx → Prop} (hj : j ≠ i) (h : EvG K g i te G n n1 P) (k : ∀ d, P d → StGN K g i r (G.set j (.val d)) n1 n2 O) : StGN K g i (tSeq (tAsg te (gName j)) r) G n n2 O := fun F0 H0 F H σ E s hi hg q => h F0 H0 F H σ s hi hg _ fun v d F1 H1 p t1 g1 r1 =>
  k d p F0 H0 F1 H1 (σ.set j (some v)) E ((s.step t1).set r1) (by rw [List.getElem?_set_ne hj]; exact hi) g1 fun σ2 F2 H2 G2 o f => q σ2 F2 H2 G2 o (t1.ff.trans f)
/-- names that the rest may set, but not i -/
theorem sgn_if {P : Bool} {tt : TT} {O : Ctx → Prop} {j : Nat} (hj : j ≠ i) {dv : D} (hb : EvB K tt G P) (hv : EvD K te G dv) (h1 : P = true → ∃ G', O G' ∧ Weak (G.set j (.val dv)) G') (h2 : P = false → ∃ G', O G' ∧ Weak G G') : StGN K g i (tIfS tt (tAsg te (gName j)) tNext) G n n O := fun F0 H0 F H σ E s hi hg q => by
  obtain ⟨x, y, z, k1, k2⟩ := id hg
  refine hb F0 H0 F H σ s.dl _ fun F1 H1 t1 => ?_
  obtain ⟨a, b⟩ := t1.dl (none_of_del s.fh) k1
  cases P with
  | true =>
    refine iteT (hv F0 H0 F1 H1 σ (s.step a).dl _ fun v F2 H2 t2 r2 => ?_)
    obtain ⟨a2, b2⟩ := t2.dl (none_of_del a.fh) b
    obtain ⟨G', o, w⟩ := h1 rfl
    exact q _ F2 H2 G' o (a.ff.trans a2.ff) ((((s.step a).step a2).set r2).weak w) (by rw [List.getElem?_set_ne hj]; exact hi) ⟨x, y, z, b2, k2⟩
  | false =>
    obtain ⟨G', o, w⟩ := h2 rfl
    exact iteF (q σ F1 H1 G' o a.ff ((s.step a).weak w) hi ⟨x, y, z, b, k2⟩)
end
/-- the start of a def that draws -/
theorem run_gen {K : Fg} {t : TS} {k : Nat} {P : List D → D → Prop} {N : List Str} (h : ∀ g ds n, (∃ d, P ds d) → n + k ≤ 2 ^ 30 → StG K g 0 t (.un :: ctx0 (N.length - 1) ds) n (n + k) (P ds)) (vs : List V) (H : Hp) (Q : VK) (E : XK) (p : spG K k P vs H Q E) : t { nx := fun _ H' => Q .non H', rt := Q } (L2.start N vs) H := by
  obtain ⟨F, g, us, ds, n, rfl, sf, hg, hn, r, hp, q⟩ := p
  have s := sokI (N := N) (F := F) (H := del H g) (x := g) sf (none_of_del sf) r
  rw [show del (del H g) g = del H g from funext fun b => by
    by_cases z : b = g
    · subst z; rw [del_x, del_x]
    · rw [del_ne z]] at s
  exact h g ds n hp hn F (del H g) F H _ _ s rfl hg fun v d F' H' pd t g' rv => q v d F' H' pd t g' rv
theorem spG_len {K : Fg} {k : Nat} {P : List D → D → Prop} {n : Nat} (h : ∀ ds d, P ds d → ds.length + 1 = n) : ∀ (vs : List V) (H : Hp) (Q : VK) (E : XK), spG K k P vs H Q E → vs.length = n := fun vs H Q E ⟨F, g, us, ds, m, e, _, _, _, r, ⟨d, p⟩, _⟩ => by
  rw [e, List.length_cons, r.len, h ds d p]
theorem ints_of : ∀ {xs : List D}, (∀ x ∈ xs, ∃ v : Int, x = .int v) → ∃ l : List Int, xs = l.map D.int
  | [], _ => ⟨[], rfl⟩
  | x :: xs, h => by
    obtain ⟨v, rfl⟩ := h x List.mem_cons_self
    obtain ⟨l, rfl⟩ := ints_of (xs := xs) fun y hy => h y (List.mem_cons_of_mem _ hy)
    exact ⟨v :: l, rfl⟩
end Cw
set_option maxHeartbeats 4000000
namespace Cw
open PySem PySem.Spec PyProof.Rows L2
theorem room_u1 {k : Nat} {A : Around} (r : Room k A) : A.units + 1 < cLine := by have := r.un; omega
def CPowW (i j : Int) : Prop := 0 ≤ j ∧ (Builtin.Int.intBits i : Int) * j ≤ 2 ^ 27
theorem op_powW {X : Cx} : OpR X (binaryOp .Pow) (rI CPowW fun i j => .int (i ^ j.toNat)) := opI fun _ _ _ _ _ _ _ hc q => pow_int hc.1 hc.2 q
section
variable {K : Fg} {G : Ctx} {te ta tb tc : TE} {d e : D} {F H : Hp}
theorem ev_powW {i j : Int} (hc : CPowW i j) (ha : EvD K ta G (.int i)) (hb : EvD K tb G (.int j)) : EvD K (tOp (rI CPowW fun i j => .int (i ^ j.toNat)) ta tb) G (.int (i ^ j.toNat)) := ev_op ha hb (op_I hc fun _ => rfl)
theorem op_ixLD {xs : List D} {j : Int} (h : atI xs j = some d) : Op2 K (rIxL K) (.lst xs) (.int j) d := fun F H x y s hx hy Q q => by
  obtain ⟨p, vs, rfl, h1, h2⟩ := hx
  cases hy
  obtain ⟨k, hk, hd⟩ : ∃ k, ixN xs.length j = some k ∧ xs[k]? = some d := by
    unfold atI at h
    cases z : ixN xs.length j with
    | none => rw [z] at h; cases h
    | some k => rw [z] at h; exact ⟨k, rfl, h⟩
  obtain ⟨v, hv, r⟩ := h2.get hd
  refine ⟨p, vs, j, v, rfl, rfl, .inl (.inl (s _ _ h1)), ?_, q v F H (Step.refl s) r⟩
  unfold atI
  rw [h2.len, hk]
  exact hv
theorem op_catD {xs ys : List D} (hl : xs.length + ys.length ≤ sizeLine) : Op2 K rCat (.lst xs) (.lst ys) (.lst (xs ++ ys)) := fun F H x y s hx hy Q q => by
  obtain ⟨p, vs, rfl, h1, h2⟩ := hx
  obtain ⟨p', us, rfl, k1, k2⟩ := hy
  exact ⟨p, p', vs, us, rfl, rfl, s _ _ h1, s _ _ k1, by rw [h2.len, k2.len]; exact hl, fun z hz => q (.ref z) (upd F z (.lst (vs ++ us))) _ (Step.newF s hz) ⟨z, _, rfl, upd_same, Reps.mono (same_new (s.free hz)) _ _ (h2.app k2)⟩⟩
theorem ev_min3 {a b c : Int} (ha : EvD K ta G (.int a)) (hb : EvD K tb G (.int b)) (hc : EvD K tc G (.int c)) : EvD K (tCB (rNuC3 nuMin3) (tCons ta (tCons tb (tCons tc tNil)))) G (.int (min (min a b) c)) := ev_cb (ea3 ha hb hc) fun F H vs s hx Q q => by
  obtain ⟨v, r, rfl, h1, u, r2, rfl, h2, w, r3, rfl, h3, h4⟩ := hx
  cases h1
  cases h2
  cases h3
  cases h4
  refine ⟨.int a, .int b, .int c, .int (min (min a b) c), rfl, ?_, q _ F H (Step.refl s) rfl⟩
  unfold nuMin3 nuMin2 nuLt nuCB
  simp only [Option.map_some, Option.bind_some, decide_eq_true_eq]
  by_cases h : b < a
  · rw [if_pos h]
    simp only [Option.map_some, decide_eq_true_eq]
    by_cases h2 : c < b
    · rw [if_pos h2]; congr 2; omega
    · rw [if_neg h2]; congr 2; omega
  · rw [if_neg h]
    simp only [Option.map_some, decide_eq_true_eq]
    by_cases h2 : c < a
    · rw [if_pos h2]; congr 2; omega
    · rw [if_neg h2]; congr 2; omega
/-- {a: x, b: y, c: z}[..] of ints -/
theorem ev_dlit3 {a b c x y z k v : Int} (h : valV (mergeK [] [((Sum.inl a : Key), V.int x), (.inl b, .int y), (.inl c, .int z)]) (.inl k) = some (.int v)) (hk : EvD K ta G (.int k)) : EvD K (tDGet (tDisp [(tC (.int a), tC (.int x)), (tC (.int b), tC (.int y)), (tC (.int c), tC (.int z))]) ta) G (.int v) := fun F0 H0 F H σ s Q q => by
  intro p hp
  refine ⟨upd_same, [(.inl a, .int x), (.inl b, .int y), (.inl c, .int z)], rfl, by show 3 ≤ 15; decide, ?_⟩
  have t1 : Step F H F (upd (upd H p (.dK [])) p (.dK (mergeK [] [((Sum.inl a : Key), V.int x), (.inl b, .int y), (.inl c, .int z)]))) := (Step.newP s.fh hp).mutP hp (s.fh.free hp)
  refine hk F0 H0 F _ σ (s.step t1) _ fun w F2 H2 t2 r2 => ?_
  cases r2
  exact ⟨p, .int v, rfl, by
    have := DGet.k (k := (.inl k : Key)) (t2.hh _ _ upd_same)
    rw [h] at this
    exact this, q (.int v) F2 H2 (t1.trans t2) rfl⟩
end
theorem curve_ok {p : Int} (hp : Pm p) {xs : List Int} (hx : ∀ x ∈ xs, 0 ≤ x ∧ x < p) (hl : xs.length = 1 ∨ xs.length = 3 ∨ xs.length = 5) (hc : (lcF p (xs ++ [1]) (pder p (xs ++ [1]))).length = 1) : CvOk (p, xs ++ [1]) := by
  have hpg := hp.ge
  have nr : Nrm p (xs ++ [1]) := ⟨fun x h => by
    rcases List.mem_append.mp h with z | z
    · exact hx x z
    · simp at z; omega, fun _ => by rw [lastI_snoc]; decide⟩
  have nd : Nrm p (pder p (xs ++ [1])) := trim_nrm hp.pos _
  have g := lc_ok hp nr nd
  have G := gcd_ok hp nr nd (.inl (by simp))
  refine ⟨hp, nr, by simp; omega, by rw [lastI_snoc], ?_⟩
  obtain ⟨u, v, hb⟩ := g.bz
  obtain ⟨x, nx, h1⟩ := G.da
  obtain ⟨y, ny, h2⟩ := G.db
  have hne : lcF p (xs ++ [1]) (pder p (xs ++ [1])) ≠ [] := fun z => by rw [z] at hc; simp at hc
  have hd : Dvd p (pgcd p (xs ++ [1]) (pder p (xs ++ [1]))) (lcF p (xs ++ [1]) (pder p (xs ++ [1]))) := by
    refine ⟨padd p (pmul p u x) (pmul p v y), trim_nrm hp.pos _, ?_⟩
    rw [hb, h1, h2]
    simp only [ps_padd, ps_pmul]
    grind
  have := dvd_len hp g.nr G.nr hne hd
  rw [hc] at this
  have hm := G.mo
  have hn := G.ne
  show pgcd p (xs ++ [1]) (pder p (xs ++ [1])) = [1]
  generalize pgcd p (xs ++ [1]) (pder p (xs ++ [1])) = w at *
  match w, hn with
  | [a], _ =>
    have : a = 1 := hm
    rw [this]
  | a :: b :: r, _ => simp at this
theorem curve0 {p : Int} (h : p = 3 ∨ p = 5 ∨ p = 7) : CvOk (p, [0, 1]) := by
  have hp : Pm p := by unfold Pm; omega
  have := hp.ge
  refine ⟨hp, ⟨fun x hx => by simp at hx; omega, fun _ => by show (1 : Int) ≠ 0; decide⟩, .inl rfl, rfl, ?_⟩
  rcases h with rfl | rfl | rfl <;> decide +kernel
/-! ### a def that hands back a new list of its own -/
def spN (K : Fg) (P : List D → List D → Prop) : Sp := fun vs H Q _ => ∃ F ds, Same F H ∧ Reps K F ds vs ∧ (∃ es, P ds es) ∧ ∀ es p us F' H', P ds es → Step F H F' H' → H p = none → F' p = none → H' p = some (.lst us) → Reps K F' es us → Q (.ref p) H'
theorem spN_len {K : Fg} {P : List D → List D → Prop} {n : Nat} (h : ∀ ds d, P ds d → ds.length = n) : ∀ (vs : List V) (H : Hp) (Q : VK) (E : XK), spN K P vs H Q E → vs.length = n := fun vs H Q E ⟨F, ds, _, r, ⟨d, p⟩, _⟩ => by rw [r.len, h ds d p]
def p__law_generator (ds : List D) (es : List D) : Prop := ∃ (ns : List Int) (x s : Int), ds = [.scr ns, .int 0] ∧ es = [.int x, .int s, .int 0] ∧ 0 ≤ x ∧ 0 ≤ s ∧ s < 2 ^ 32
/-- what is drawn from a new list is done -/
theorem ev_gen {K : Fg} {G : Ctx} {tr : TA} {ds : List D} {k : Nat} {P : List D → D → Prop} {E E' : XK} {d : D} (hk : k ≤ 2 ^ 30) (h : EvA K tr G ds) (hp : ∃ es, p__law_generator ds es) (hP : P [] d) (hu : ∀ e, P [] e → e = d) : EvD K (tCall (spG K k P) [] E (tCons (tCall (spN K p__law_generator) [] E' tr) tNil)) G d := fun F0 H0 F H σ s Q q => by
  refine h F0 H0 F H σ s _ fun vs F1 H1 t1 r1 => ⟨F1, ds, t1.fh, by rw [List.append_nil]; exact r1, hp, fun es p us F2 H2 pe t2 hp2 hf2 hu2 r2 => ?_⟩
  obtain ⟨ns, x, s0, _, rfl, h1, h2, h3⟩ := pe
  obtain ⟨v1, w1, rfl, e1, v2, w2, rfl, e2, v3, w3, rfl, e3, e4⟩ := r2
  cases e1
  cases e2
  cases e3
  cases e4
  have fd : Same F2 (del H2 p) := fun b o e => by rw [del_ne (ne_of_none e hf2)]; exact t2.fh b o e
  refine ⟨F2, p, [], [], 0, rfl, fd, ⟨x, s0, 0, hu2, h1, h2, h3, by decide, by decide⟩, by omega, rfl, ⟨d, hP⟩, fun v e F3 H3 pd t3 g3 r3 => ?_⟩
  rw [hu e pd] at r3
  have tt := t1.trans t2
  have hpH : H p = none := t1.hh.free hp2
  refine q v F3 H3 ⟨tt.ff.trans t3.ff, fun b o e => ?_, t3.fh.trans del_same, fun a m => ?_⟩ r3
  · have nb := ne_of_none e hpH
    exact del_same _ _ (t3.hh b o (by rw [del_ne nb]; exact tt.hh b o e))
  · rcases t3.nw a m with z | z
    · exact tt.nw a z
    · by_cases y : a = p
      · subst y; exact .inr (.inl hpH)
      · unfold NewAt at z
        rw [del_ne y] at z
        exact .inr (NewAt.back z tt.hh)
theorem StG.imp {K : Fg} {g : Addr} {i : Nat} {t : TS} {G : Ctx} {n N : Nat} {R R' : D → Prop} (h : StG K g i t G n N R) (k : ∀ d, R d → R' d) : StG K g i t G n N R' := fun F0 H0 F H σ E s hi hg q => h F0 H0 F H σ E s hi hg fun v d F' H' r => q v d F' H' (k d r)
def RpI (c : Cur) (s : Tri × Tri × Int) : Prop := 0 ≤ s.2.2 ∧ s.2.2 ≤ 20 ∧ ∃ a b : Nat, FnIn c s.1 a ∧ FnIn c s.2.1 b ∧ (a + 9) + s.2.2.toNat * (b + 9) ≤ 9000
theorem rp_turn {c : Cur} (cv : CvOk c) : ∀ s, RpI c s → rpC s = true → RpI c (rpS c s) ∧ (rpS c s).2.2.toNat < s.2.2.toNat := by
  rintro ⟨A, B, m⟩ ⟨i0, i1, a, b, hA, hB, hab⟩ hc
  simp only at i0 i1 hA hB hab
  have hm : 0 < m := by simpa [rpC] using hc
  have ht := fTimes_in cv hA hB
  have ht2 := fTimes_in cv hB hB
  refine ⟨⟨by show 0 ≤ m / 2; omega, by show m / 2 ≤ 20; omega, ?_⟩, by show (m / 2).toNat < m.toNat; omega⟩
  by_cases z : m % 2 = 1
  · refine ⟨a + b + 9, b + b + 9, by show FnIn c (if m % 2 = 1 then fTimes c A B else A) _; rw [if_pos z]; exact ht, ht2, ?_⟩
    show (a + b + 9 + 9) + (m / 2).toNat * (b + b + 9 + 9) ≤ 9000
    have e : m.toNat = 2 * (m / 2).toNat + 1 := by omega
    rw [e, Nat.add_mul, Nat.mul_assoc] at hab
    rw [show b + b + 9 + 9 = 2 * (b + 9) by omega, Nat.mul_left_comm]
    omega
  · refine ⟨a, b + b + 9, by show FnIn c (if m % 2 = 1 then fTimes c A B else A) _; rw [if_neg z]; exact hA, ht2, ?_⟩
    show (a + 9) + (m / 2).toNat * (b + b + 9 + 9) ≤ 9000
    have e : m.toNat = 2 * (m / 2).toNat := by omega
    rw [e, Nat.mul_assoc] at hab
    rw [show b + b + 9 + 9 = 2 * (b + 9) by omega, Nat.mul_left_comm]
    omega
theorem fRaised_in {c : Cur} {T : Tri} {n : Int} (cv : CvOk c) (hT : FnIn c T 400) (h0 : 0 ≤ n) (h1 : n ≤ 20) : FnIn c (fRaised c T n) 9000 := by
  have st : RpI c (fOne c, T, n) := ⟨h0, h1, 2, 400, fOne_in cv, hT, by show (2 + 9) + n.toNat * (400 + 9) ≤ 9000; omega⟩
  obtain ⟨⟨_, _, a, b, hA, hB, hab⟩, _⟩ := while_inv (c := rpC) (f := rpS c) (Iv := RpI c) (μ := fun s => s.2.2.toNat) (rp_turn cv) n.toNat (fOne c, T, n) st (Nat.le_refl _)
  exact FnIn.mono hA (by omega)
def p_law (ds : List D) (d : D) : Prop := ∃ ns : List Int, ds = [.scr ns] ∧ True ∧ d = .bl true
theorem ints_inj : ∀ {a b : List Int}, a.map D.int = b.map D.int → a = b
  | [], [], _ => rfl
  | [], _ :: _, h => by simp at h
  | _ :: _, [], h => by simp at h
  | x :: a, y :: b, h => by
    have h1 := List.cons.inj h
    have h2 : x = y := D.int.inj h1.1
    rw [h2, ints_inj h1.2]
theorem told_inj {c c' : Cur} (h : toldD c = toldD c') : c = c' := by
  obtain ⟨p, f⟩ := c
  obtain ⟨p', f'⟩ := c'
  have h1 := D.tup.inj h
  have h2 := List.cons.inj h1
  have h3 : p = p' := D.int.inj h2.1
  have h4 := D.lst.inj (List.cons.inj h2.2).1
  have h5 : f = f' := ints_inj h4
  rw [h3, h5]
end Cw
set_option maxHeartbeats 4000000
namespace Cw
open PySem PySem.Spec PyProof.Rows L2
/-! ### sorted(xs) of data -/
/-- the values sorted by what they stand for -/
def srtV (xs : List V) (ds : List PyData) : List V := ((xs.zip ds).mergeSort (PySem.W.dataLe false Prod.snd)).map Prod.fst
def rSortD (K : Fg) : List V → Hp → VK → Prop := fun vs H Q => ∃ (a : Addr) (xs : List V) (ds : List PyData), vs = [V.ref a] ∧ SqL K H a xs ∧ DpAll K H xs ds ∧ PySem.W.AllAlike ds ∧ PySem.W.Sortable ds ∧ (∀ d, d ∈ ds → d.depth ≤ 60) ∧
  ∀ p, H p = none → Q (.ref p) (upd H p (.lst (srtV xs ds)))
theorem dpAll_len {K : Fg} {H : Hp} : ∀ {ds : List PyData} {vs : List V}, DpAll K H vs ds → vs.length = ds.length
  | _, _, .nil => rfl
  | _, _, .cons _ h => by rw [List.length_cons, List.length_cons, dpAll_len h]
theorem each_zip {K : Fg} {X : Cx} {pins : List (Addr × Obj)} {σ : L2.St} {H : Hp} {s : Shared} (I : Inv X pins σ H s) : ∀ {ds : List PyData} {vs : List V} {us : List Value}, DpAll X.K H vs ds → Vals vs us → PySem.W.EachIs (fun u (b : V × PyData) => RelV b.1 u) us (vs.zip ds) ∧ PySem.W.EachIs (fun u (b : V × PyData) => ∃ as, Reads s.heap u b.2 as) us (vs.zip ds)
  | _, _, _, .nil, .nil => ⟨.nil, .nil⟩
  | _, _, _, .cons h1 h2, .cons r1 r2 => by
    obtain ⟨as, q⟩ := Dp.reads I _ _ _ h1 r1
    obtain ⟨a, b⟩ := each_zip (K := K) I h2 r2
    exact ⟨.cons r1 a, .cons ⟨as, q⟩ b⟩
theorem vals_each : ∀ {us : List Value} {bs : List (V × PyData)}, PySem.W.EachIs (fun u (b : V × PyData) => RelV b.1 u) us bs → Vals (bs.map Prod.fst) us
  | _, _, .nil => .nil
  | _, _, .cons h t => .cons h (vals_each t)
theorem cr_sortedD {X : Cx} {K : Fg} (hu : X.A.units + 64 < cLine) (hK : X.K = K := by rfl) : CallR X (.builtin "sorted") (rSortD K) := by
  cases hK
  intro pins s σ H vs us Q I r h
  obtain ⟨a, xs, ds, rfl, hs, hd, hal, hk, hdp, q⟩ := h
  obtain ⟨its, rv, hl, hz⟩ := I.list hs
  rw [Vals.ref1 r]
  have hlen := dpAll_len hd
  have hzl : (xs.zip ds).length = xs.length := by rw [List.length_zip, hlen]; omega
  have hm : (xs.zip ds).map Prod.snd = ds := List.map_snd_zip (by omega)
  obtain ⟨e1, e2⟩ := each_zip (K := X.K) I hd rv
  refine PySem.W.sorted_data (enc := fun b : V × PyData => b.2) hl.isList e1 e2 (by show PySem.W.AllAlike ((xs.zip ds).map Prod.snd); rw [hm]; exact hal) (by show PySem.W.Sortable ((xs.zip ds).map Prod.snd); rw [hm]; exact hk) (by rw [hzl]; exact hz) (fun b hb => ?_) fun out ho eo => ?_
  · have : b.2 ∈ ds := by rw [← hm]; exact List.mem_map.mpr ⟨b, hb, rfl⟩
    have := hdp _ this
    omega
  · obtain ⟨ep, he'⟩ := PyProof.Rows.sortedAll_at s.heap its out.toArray
    have hl2 : (srtV xs ds).length ≤ sizeLine := by
      unfold srtV
      rw [List.length_map, List.length_mergeSort, hzl]; exact hz
    exact ⟨.ref _, upd H (s.heap.objs.size + 1) (.lst (srtV xs ds)), I.laid (t' := s.toks) (fun _ _ => PyProof.Rows.sortedAll_old) (Nat.le_succ _) ⟨hl2, out, ep, vals_each eo, he'⟩, rfl, q _ (I.hok.fresh (Nat.le_succ _))⟩
def leD {α : Type} (enc : α → D) (a b : α) : Bool := PySem.W.dataLe false (fun x => py (enc x)) a b
theorem reps_mem {K : Fg} {F : Hp} {α : Type} {enc : α → D} : ∀ {w : List (V × α)}, (∀ q, q ∈ w → Rep K F (enc q.2) q.1) → Reps K F ((w.map Prod.snd).map enc) (w.map Prod.fst)
  | [], _ => rfl
  | q :: w, h => ⟨q.1, _, rfl, h q List.mem_cons_self, reps_mem fun r hr => h r (List.mem_cons_of_mem _ hr)⟩
theorem mem_reps {K : Fg} {F : Hp} {α : Type} {enc : α → D} : ∀ {as : List α} {vs : List V}, Reps K F (as.map enc) vs → ∀ q, q ∈ vs.zip as → Rep K F (enc q.2) q.1
  | [], _, h, q, hq => by cases h; simp at hq
  | a :: as, _, h, q, hq => by
    obtain ⟨v, r, rfl, h1, h2⟩ := h
    rw [List.zip_cons_cons, List.mem_cons] at hq
    rcases hq with rfl | hq
    · exact h1
    · exact mem_reps h2 q hq
theorem pys_map {α : Type} {enc : α → D} : ∀ as : List α, pys (as.map enc) = as.map fun a => py (enc a)
  | [] => rfl
  | a :: as => by
    show py (enc a) :: pys (as.map enc) = _
    rw [pys_map as]; rfl
theorem srt_reps {K : Fg} {F : Hp} {α : Type} {enc : α → D} {as : List α} {vs : List V} (r : Reps K F (as.map enc) vs) : Reps K F ((as.mergeSort (leD enc)).map enc) (srtV vs (as.map fun a => py (enc a))) := by
  have hl : vs.length = as.length := by rw [r.len, List.length_map]
  have e : vs.zip (as.map fun a => py (enc a)) = (vs.zip as).map fun q => (q.1, py (enc q.2)) := by
    rw [List.zip_map_right]; rfl
  have h1 : (((vs.zip as).map fun q => (q.1, py (enc q.2))).mergeSort (PySem.W.dataLe false Prod.snd)) = ((vs.zip as).mergeSort fun p q => leD enc p.2 q.2).map fun q => (q.1, py (enc q.2)) := by
    refine (List.map_mergeSort (f := fun q : V × α => (q.1, py (enc q.2))) (r := fun (p q : V × α) => leD enc p.2 q.2) (s := PySem.W.dataLe false Prod.snd) (l := vs.zip as) fun a _ b _ => ?_).symm
    rfl
  have h2 : ((vs.zip as).mergeSort fun p q => leD enc p.2 q.2).map Prod.snd = as.mergeSort (leD enc) := by
    rw [List.map_mergeSort (s := leD enc) (fun a _ b _ => rfl), List.map_snd_zip (by omega)]
  unfold srtV
  rw [e, h1, List.map_map, ← h2]
  exact reps_mem fun q hq => mem_reps r q ((List.mergeSort_perm _ _).mem_iff.mp hq)
section
variable {K : Fg} {G : Ctx} {te : TE}
theorem en_sorted {α : Type} {enc : α → D} {as : List α} (ok : okDs 8 (as.map enc) = true) (hal : PySem.W.AllAlike (as.map fun a => py (enc a))) (hk : PySem.W.Sortable (as.map fun a => py (enc a))) (hdp : ∀ a, a ∈ as → (py (enc a)).depth ≤ 60) (h : EvD K te G (lsD enc as)) :
    EvN K (tCB (rSortD K) (tCons te tNil)) G ((as.mergeSort (leD enc)).map enc) := fun F0 H0 F H σ s Q q => h F0 H0 F H σ s _ fun v F1 H1 t1 r1 => by
  obtain ⟨a, vs, rfl, h1, h2⟩ := r1
  have h3 := Reps.mono t1.fh _ _ h2
  refine ⟨a, vs, as.map fun a => py (enc a), rfl, .inl (.inl (t1.fh _ _ h1)), by rw [← pys_map]; exact ok_dps 8 _ _ ok h3, hal, hk, fun d hd => ?_, fun p hp => q p _ F1 _ (t1.trans (Step.newP t1.fh hp)) (t1.hh.free hp) (t1.fh.free hp) upd_same (srt_reps h2)⟩
  obtain ⟨x, hx, rfl⟩ := List.mem_map.mp hd
  exact hdp x hx
end
end Cw
set_option maxHeartbeats 4000000
namespace Cw
open PySem PySem.Spec PyProof.Rows L2
section
variable {prog : Program} {w : World} {A : Around} {E : Value → Shared → Prop} {s : Shared}
/-- zip(a, b, strict=True): the object -/
abbrev IsZs (h : Heap) (z TI TO : Addr) (f0 : Value) : Prop := h.get? z = some { cls := .type "zip", dict := none, data := .fields #[f0, .bool false, .bool true, .ref TI, .ref TO], slots := #[] }
abbrev kwS : List (Str × Value) := [("strict", .bool true)]
theorem zs_type (a b : Value) : checkTypeCall "zip" ⟨[a, b], kwS⟩ = pure () := by kernel_rfl
theorem zs_new (a b : Value) : checkBuiltinCall "zip.__new__" ⟨[.type "zip", a, b], kwS⟩ = pure () := by kernel_rfl
theorem zs_init (a b c : Value) : argsOk "object.__init__" ⟨[a, b, c], kwS⟩ := by
  unfold argsOk; rw [signature?_of (id := "object.__init__") (n := ['_', '_', 't', 'i', 'n', 'i', '_', '_']) (o := ['t', 'c', 'e', 'j', 'b', 'o']) (by kernel_rfl) F.owner_object]; kernel_rfl
theorem zs_objinit {self a b : Value} : Meets (Builtin.«object.__init__» ⟨[self, a, b], kwS⟩) (fun _ R s => s.TypeIs self "zip" ∧ R (.ok (.ret .none)) s) := by
  refine Meets.of_wp fun prog w A R s hs => ?_
  obtain ⟨hT, hq⟩ := hs
  have hl := F.called_zip.init.lookup
  have hm := F.called_zip.made
  have hne : (some "zip.__new__" != some "object.__new__") = true := by decide
  repeat (any_goals (first | assumption | wp_step))
  exact ⟨_, rfl, hq⟩
theorem zs_call {args : List Value} {kw : List (Str × Value)} {T newId initId : String} {Bn Bi : Builtin} {S : PySem.Spec} {Q Q1 : Value → Shared → Prop} (ft : TypeCalled T newId initId)
    (hct : checkTypeCall T ⟨args, kw⟩ = pure ()) (hcn : checkBuiltinCall newId ⟨.type T :: args, kw⟩ = pure ())
    (entryN : entryFor table newId = some Bn) (entryI : entryFor table initId = some Bi) (g : Meets (Bn ⟨.type T :: args, kw⟩) S) (h : S A.in1 (wants Q1 E) s)
    (hnext : ∀ obj s1, Q1 obj s1 → s1.TypeIs obj T ∧ argsOk initId ⟨obj :: args, kw⟩ ∧ ∃ Si, Meets (Bi ⟨obj :: args, kw⟩) Si ∧ Si A.in1 (wants (fun r s2 => r = .none ∧ Q obj s2) E) s1) :
    wpAny (model prog w) A (call (.type T) args kw) Q E s := by
  obtain ⟨c, tl, hmro⟩ := ft.mro
  have hmade := ft.made
  have hsub := ft.sub
  refine wpAny_call (codeAny_of_tree ?_)
  show wpAny _ _ (callAny (.type T) _) _ _ _
  refine wpAny_pure ⟨Code.quiet_builtin _ (by decide +kernel), codeAny_builtin F.entry_type_call ?_⟩
  rw [Around.under_plain (show (Code.builtin "type.__call__" ⟨.type T :: args, kw⟩).weight = 0 from rfl) (show (Code.builtin "type.__call__" ⟨.type T :: args, kw⟩).cUnits = 1 from rfl)]
  have h1 := ft.notType
  have h2 := ft.canCreate
  repeat (any_goals (first | assumption | wp_step))
  refine codeAny_mono (codeAny_call_builtin ft.plain entryN (wpAny_of_eq hcn (g prog w A.in1 _ s h))) fun r s1 hr => ?_
  cases r with
  | error e => exact hr
  | ok fl =>
    cases fl with
    | ret obj =>
      obtain ⟨hT, hok, Si, gi, hsi⟩ := hnext _ _ hr
      have hli := ft.init.lookup
      have hbi := ft.init.bind obj
      repeat (any_goals (first | assumption | wp_step))
      refine codeAny_mono (codeAny_call_builtin ft.init.plain entryI (ft.init.check _ _ _ _ _ _ _ _ hT hok (gi prog w A.in1 _ s1 hsi))) fun r2 s2 hr2 => ?_
      cases r2 with
      | error e => exact hr2
      | ok fl2 =>
        cases fl2 with
        | ret r =>
          obtain ⟨rfl, hq⟩ := hr2
          repeat (any_goals (first | assumption | wp_step))
        | _ => exact hr2.elim
    | _ => exact hr.elim
abbrev zsH (h : Heap) (l1 l2 : Addr) : Heap := (zipH4 h l1 l2).push { cls := .type "zip", data := .fields #[.none, .bool false, .bool true, .ref (zipH2 h l1 l2).objs.size, .ref (zipH3 h l1 l2).objs.size] }
theorem zs_meets (l1 l2 : Addr) (xs ys : Array Value) :
    Meets (Builtin.«zip.__new__» ⟨[.type "zip", .ref l1, .ref l2], kwS⟩) (fun _ R s => s.heap.IsList l1 xs ∧ s.heap.IsList l2 ys ∧ R (.ok (.ret (.ref (zipH4 s.heap l1 l2).objs.size))) { s with heap := zsH s.heap l1 l2 }) :=
  .of_wp fun prog w A R s h => by
    obtain ⟨hp, g, d, tk, os⟩ := s; obtain ⟨hl1, hl2, h⟩ := h
    have hsub := sub_zip
    have hL1 : Heap.IsList (Shared.heap ⟨hp, g, d, tk, os⟩) l1 xs := hl1
    have hL2 : Heap.IsList (Shared.heap ⟨hp.push { cls := .type "list_iterator", data := .fields #[.ref l1, .int 0 0] }, g, d, tk, os⟩) l2 ys := Heap.IsList.push hl2 _
    wp_walk using wpAny_pyIter_list hL1, wpAny_pyIter_list hL2
    exact ⟨_, rfl, h⟩
theorem zs_call2 {l1 l2 : Addr} {xs ys : Array Value} {Q : Value → Shared → Prop} (hl1 : s.heap.IsList l1 xs) (hl2 : s.heap.IsList l2 ys)
    (h : ∀ h', IsZs h' (s.heap.objs.size + 4) (s.heap.objs.size + 2) (s.heap.objs.size + 3) .none → IsPair h' (s.heap.objs.size + 2) (.ref s.heap.objs.size) (.ref (s.heap.objs.size + 1)) →
      IsPair h' (s.heap.objs.size + 3) .none .none → h'.IsListIter s.heap.objs.size l1 0 → h'.IsListIter (s.heap.objs.size + 1) l2 0 → h'.objs.size = s.heap.objs.size + 5 →
      (∀ c o, s.heap.get? c = some o → h'.get? c = some o) → Q (.ref (s.heap.objs.size + 4)) { s with heap := h' }) :
    wpAny (model prog w) A (call (.type "zip") [.ref l1, .ref l2] kwS) Q E s := by
  have z1 : (zipH1 s.heap l1).objs.size = s.heap.objs.size + 1 := Heap.size_push ..
  have z2 : (zipH2 s.heap l1 l2).objs.size = s.heap.objs.size + 2 := by rw [Heap.size_push, z1]
  have z3 : (zipH3 s.heap l1 l2).objs.size = s.heap.objs.size + 3 := by rw [Heap.size_push, z2]
  have z4 : (zipH4 s.heap l1 l2).objs.size = s.heap.objs.size + 4 := by rw [Heap.size_push, z3]
  have z5 : (zsH s.heap l1 l2).objs.size = s.heap.objs.size + 5 := by rw [Heap.size_push, z4]
  have g5 : (zsH s.heap l1 l2).get? (zipH4 s.heap l1 l2).objs.size = some _ := Heap.get?_push_size _ rfl
  have g4 : (zsH s.heap l1 l2).get? (zipH3 s.heap l1 l2).objs.size = some _ := Heap.get?_push_of_some _ (Heap.get?_push_size _ rfl)
  have g3 : (zsH s.heap l1 l2).get? (zipH2 s.heap l1 l2).objs.size = some _ := Heap.get?_push_of_some _ (Heap.get?_push_of_some _ (Heap.get?_push_size _ rfl))
  have g2 : (zsH s.heap l1 l2).get? (zipH1 s.heap l1).objs.size = some _ := Heap.get?_push_of_some _ (Heap.get?_push_of_some _ (Heap.get?_push_of_some _ (Heap.get?_push_size _ rfl)))
  have g1 : (zsH s.heap l1 l2).get? s.heap.objs.size = some _ := Heap.get?_push_of_some _ (Heap.get?_push_of_some _ (Heap.get?_push_of_some _ (Heap.get?_push_of_some _ (Heap.get?_push_size _ rfl))))
  have e4 := z4
  rw [z2, z3, z4] at g5
  rw [z1, z2] at g3
  rw [z3] at g4
  rw [z1] at g2
  refine zs_call (Q1 := fun o s1 => o = .ref (s.heap.objs.size + 4) ∧ s1 = { s with heap := zsH s.heap l1 l2 }) F.called_zip (zs_type _ _) (zs_new _ _) F.entry_zip_new F.entry_object_init (zs_meets l1 l2 xs ys) ⟨hl1, hl2, ?_⟩ ?_
  · rw [e4]; exact ⟨rfl, rfl⟩
  · rintro obj s1 ⟨rfl, rfl⟩
    have hT : Shared.TypeIs { s with heap := zsH s.heap l1 l2 } (.ref (s.heap.objs.size + 4)) "zip" := ⟨_, g5, rfl⟩
    exact ⟨hT, zs_init _ _ _, _, zs_objinit, hT, rfl, h _ g5 g3 g4 ⟨_, g1, rfl, rfl⟩ ⟨_, g2, rfl, rfl⟩ z5 fun c o x =>
      Heap.get?_push_of_some _ (Heap.get?_push_of_some _ (Heap.get?_push_of_some _ (Heap.get?_push_of_some _ (Heap.get?_push_of_some _ x))))⟩
/-! the next pair, the end -/
theorem noe_item {it l : Addr} {i : Nat} {items : Array Value} {x : Value} {Q : Option Value → Shared → Prop} (hit : s.heap.IsListIter it l i) (hl : s.heap.IsList l items) (hx : items[i]? = some x)
    (hQ : ∀ h', h'.IsListIter it l (i + 1) → Heap.SameBut it s.heap h' → Q (some x) { s with heap := h' }) : wpAny (model prog w) A (Builtin.SmallTypes.nextOrEnd (.ref it)) Q E s := by
  unfold Builtin.SmallTypes.nextOrEnd
  exact wpAny_bind (wpAny_attempt (wpAny_nextOf_list_item hit hl hx fun h' a b => wpAny_pure (hQ h' a b)))
theorem noe_end {it l : Addr} {i : Nat} {items : Array Value} {Q : Option Value → Shared → Prop} (hh : A.handled = none) (hit : s.heap.IsListIter it l i) (hl : s.heap.IsList l items) (hx : items[i]? = none)
    (hQ : ∀ h', Heap.ExtBut it s.heap h' → Q none { s with heap := h' }) : wpAny (model prog w) A (Builtin.SmallTypes.nextOrEnd (.ref it)) Q E s := by
  unfold Builtin.SmallTypes.nextOrEnd
  refine wpAny_bind (wpAny_attempt (wpAny_nextOf_list_end hh hit hl hx fun h' e k he => ?_))
  obtain ⟨o, ho, hc⟩ := he
  exact wpAny_bind (wpAny_isInstance (T := "StopIteration") (b := true) ⟨o, ho, hc⟩ isSubtype_stop (wpAny_pure (hQ h' k)))
theorem stop_it {α : Type} {Q : α → Shared → Prop} (hh : A.handled = none) (hE : ∀ h' e, (∀ c o, s.heap.get? c = some o → h'.get? c = some o) → (∃ o, h'.get? e = some o ∧ o.cls = .type "StopIteration") → E (.ref e) { s with heap := h' }) :
    wpAny (model prog w) A (Builtin.SmallTypes.stopIteration : Sem α) Q E s := by
  show wpAny _ _ (newExc (.type "StopIteration") [] >>= _) _ _ _
  refine wpAny_bind ?_
  simp only [newExc, newTuple]
  refine wpAny_bind (wpAny_newObj_type ?_ (by size_fits))
  refine wpAny_bind (m := firstArgMember _ _) (wpAny_of_eq (a := Value.none) (by first | rfl | (simp only [firstArgMember]; rfl)) ?_)
  refine wpAny_newObj_type ?_ (by size_fits)
  simp only [raiseNew]
  refine wpAny_bind (wpAny_handled ?_)
  rw [hh]
  refine wpAny_bind (wpAny_pure (wpAny_throw ?_))
  exact hE _ _ (fun c o x => Heap.get?_push_of_some _ (Heap.get?_push_of_some _ x)) ⟨_, Heap.get?_push_size _ rfl, rfl⟩
theorem zs_item {z TI TO i1 i2 l1 l2 : Addr} {k1 k2 : Nat} {xs ys : Array Value} {x y a b : Value} {Q : Value → Shared → Prop} (D : ZipApart z TI TO i1 i2 l1 l2)
    (hz : IsZs s.heap z TI TO .none) (hTI : IsPair s.heap TI (.ref i1) (.ref i2)) (hTO : IsPair s.heap TO a b)
    (h1 : s.heap.IsListIter i1 l1 k1) (h2 : s.heap.IsListIter i2 l2 k2) (hl1 : s.heap.IsList l1 xs) (hl2 : s.heap.IsList l2 ys) (hx : xs[k1]? = some x) (hy : ys[k2]? = some y)
    (hQ : ∀ h', IsZs h' z TI TO (rawInt s.heap.objs.size) → IsPair h' TO x y → h'.IsListIter i1 l1 (k1 + 1) → h'.IsListIter i2 l2 (k2 + 1) → IsPair h' s.heap.objs.size x y → h'.objs.size = s.heap.objs.size + 1 →
      (∀ c o, c ≠ z → c ≠ TO → c ≠ i1 → c ≠ i2 → s.heap.get? c = some o → h'.get? c = some o) → Q (.ref s.heap.objs.size) { s with heap := h' }) :
    wpAny (model prog w) A (Builtin.«zip.__next__» ⟨[.ref z], []⟩) (fun fin s' => ∃ v, fin = .done (.ret v) ∧ Q v s') E s := by
  show wpAny _ _ (field (.ref z) 2 >>= _) _ _ _
  refine wpAny_bind (wpAny_field hz rfl (x := .bool true) rfl ?_)
  show wpAny _ _ (field (.ref z) 3 >>= _) _ _ _
  refine wpAny_bind (wpAny_field hz rfl (x := .ref TI) rfl ?_)
  refine wpAny_bind (wpAny_seqItems hTI rfl ?_)
  show wpAny _ _ (Builtin.SmallTypes.ownedTupleIsFree (.ref z) >>= _) _ _ _
  refine wpAny_bind ?_
  unfold Builtin.SmallTypes.ownedTupleIsFree
  refine wpAny_bind (wpAny_field hz rfl (x := .none) rfl (wpAny_pure ?_))
  simp only [if_true]
  refine wpAny_bind (wpAny_rule ?_)
  refine wpAny_bind (wpAny_field hz rfl (x := .ref TO) rfl ?_)
  refine wpAny_bind (wpAny_setField_rec hz (by simp) fun n1 hz1 hs1 => ?_)
  replace hz1 : IsZs n1 z TI TO .ellipsis := hz1
  refine wpAny_bind ?_
  simp only [List.zipIdx_cons, List.zipIdx_nil, List.forIn_cons, List.forIn_nil]
  refine wpAny_bind (wpAny_bind (wpAny_onRaise ?_))
  show wpAny _ _ (Builtin.SmallTypes.nextOrEnd (.ref i1)) _ _ _
  refine noe_item (h1.extBut hs1.extBut D.i1z) (hl1.extBut hs1.extBut D.l1z) hx fun n2 h12 hs2 => ?_
  have hTO2 : IsPair n2 TO a b := hs2.extBut _ _ D.TOi1 (hs1.extBut _ _ D.TOz hTO)
  refine wpAny_bind (wpAny_seqItems hTO2 rfl ?_)
  refine wpAny_bind (wpAny_updateSeq_pair hTO2 fun n3 hTO3 hs3 => ?_)
  replace hTO3 : IsPair n3 TO x b := hTO3
  refine wpAny_bind (wpAny_letGo (wpAny_pure ?_))
  refine wpAny_bind (wpAny_bind (wpAny_onRaise ?_))
  show wpAny _ _ (Builtin.SmallTypes.nextOrEnd (.ref i2)) _ _ _
  refine noe_item (((h2.extBut hs1.extBut D.i2z).extBut hs2.extBut D.i12.symm).extBut hs3.extBut D.TOi2.symm) (((hl2.extBut hs1.extBut D.l2z).extBut hs2.extBut D.l2i1).extBut hs3.extBut D.l2TO) hy fun n4 h24 hs4 => ?_
  have hTO4 : IsPair n4 TO x b := hs4.extBut _ _ D.TOi2 hTO3
  refine wpAny_bind (wpAny_seqItems hTO4 rfl ?_)
  refine wpAny_bind (wpAny_updateSeq_pair hTO4 fun n5 hTO5 hs5 => ?_)
  replace hTO5 : IsPair n5 TO x y := hTO5
  refine wpAny_bind (wpAny_letGo (wpAny_pure (wpAny_pure ?_)))
  refine wpAny_bind (wpAny_seqItems hTO5 rfl ?_)
  refine wpAny_bind (wpAny_newTuple ?_)
  have hsz : n5.objs.size = s.heap.objs.size := by rw [hs5.1, hs4.1, hs3.1, hs2.1, hs1.1]
  have hz5 : IsZs n5 z TI TO .ellipsis := hs5.extBut _ _ D.TOz.symm (hs4.extBut _ _ D.i2z.symm (hs3.extBut _ _ D.TOz.symm (hs2.extBut _ _ D.i1z.symm hz1)))
  have hk5 : ∀ c o, c ≠ z → c ≠ TO → c ≠ i1 → c ≠ i2 → s.heap.get? c = some o → n5.get? c = some o := fun c o c1 c2 c3 c4 e =>
    hs5.extBut _ _ c2 (hs4.extBut _ _ c4 (hs3.extBut _ _ c2 (hs2.extBut _ _ c3 (hs1.extBut _ _ c1 e))))
  have h15 : n5.IsListIter i1 l1 (k1 + 1) := ((h12.extBut hs3.extBut D.TOi1.symm).extBut hs4.extBut D.i12).extBut hs5.extBut D.TOi1.symm
  have h25 : n5.IsListIter i2 l2 (k2 + 1) := h24.extBut hs5.extBut D.TOi2.symm
  have hzlt : z < n5.objs.size := Heap.lt_size hz5
  have hTOlt : TO < n5.objs.size := Heap.lt_size hTO5
  show wpAny _ _ (Builtin.SmallTypes.ownedTupleHandOut (.ref z) (.ref n5.objs.size) >>= _) _ _ _
  refine wpAny_bind ?_
  unfold Builtin.SmallTypes.ownedTupleHandOut
  have hz6 : IsZs (n5.push { cls := .type "tuple", data := .seq #[x, y] }) z TI TO .ellipsis := Heap.get?_push_of_some _ hz5
  refine wpAny_bind (wpAny_setField_rec hz6 (by simp) fun n7 hz7 hs7 => ?_)
  replace hz7 : IsZs n7 z TI TO (rawInt n5.objs.size) := hz7
  refine wpAny_setField_rec hz7 (by simp) fun n8 hz8 hs8 => ?_
  replace hz8 : IsZs n8 z TI TO (rawInt n5.objs.size) := hz8
  have up : ∀ c o, c ≠ z → n5.get? c = some o → n8.get? c = some o := fun c o c1 e => hs8.extBut _ _ c1 (hs7.extBut _ _ c1 (Heap.get?_push_of_some _ e))
  have hT8 : IsPair n8 n5.objs.size x y := hs8.extBut _ _ (Nat.ne_of_gt hzlt) (hs7.extBut _ _ (Nat.ne_of_gt hzlt) (Heap.get?_push_size _ rfl))
  have hs8' : n8.objs.size = n5.objs.size + 1 := by rw [hs8.1, hs7.1, Heap.size_push]
  rw [hsz] at hz8 hT8 hs8'
  refine wpAny_pure ⟨_, rfl, ?_⟩
  show Q (.ref n5.objs.size) _
  rw [hsz]
  exact hQ n8 hz8 (up _ _ D.TOz hTO5) (h15.at fun o e => up _ o D.i1z e) (h25.at fun o e => up _ o D.i2z e) hT8 hs8' fun c o c1 c2 c3 c4 e => up c o c1 (hk5 c o c1 c2 c3 c4 e)
/-- what the model does at the end of one of them (its own text is private) -/
def zsEnd (its : List Value) (i : Nat) : Sem PySem.Fin := do
  if i > 0 then
    rule "zip.__next__.shorter"; raiseError "ValueError" s!"zip() argument {i + 1} is shorter than {if i == 1 then "argument 1" else s!"arguments 1-{i}"}"
  for (it, j) in (its.drop 1).zipIdx 1 do
    if (← Builtin.SmallTypes.nextOrEnd it).isSome then
      rule "zip.__next__.longer"; raiseError "ValueError" s!"zip() argument {j + 1} is longer than {if j == 1 then "argument 1" else s!"arguments 1-{j}"}"
  rule "zip.__next__.all-ended"; Builtin.SmallTypes.stopIteration
theorem zs_end {z TI TO i1 i2 l1 l2 : Addr} {k : Nat} {xs ys : Array Value} {a b : Value} {Q : Fin → Shared → Prop} (hh : A.handled = none) (D : ZipApart z TI TO i1 i2 l1 l2)
    (hz : IsZs s.heap z TI TO .none) (hTI : IsPair s.heap TI (.ref i1) (.ref i2)) (hTO : IsPair s.heap TO a b)
    (h1 : s.heap.IsListIter i1 l1 k) (h2 : s.heap.IsListIter i2 l2 k) (hl1 : s.heap.IsList l1 xs) (hl2 : s.heap.IsList l2 ys) (hx : xs[k]? = none) (hy : ys[k]? = none)
    (hE : ∀ h' e, (∀ c o, c ≠ z → c ≠ TO → c ≠ i1 → c ≠ i2 → s.heap.get? c = some o → h'.get? c = some o) → (∃ o, h'.get? e = some o ∧ o.cls = .type "StopIteration") → E (.ref e) { s with heap := h' }) :
    wpAny (model prog w) A (Builtin.«zip.__next__» ⟨[.ref z], []⟩) Q E s := by
  show wpAny _ _ (field (.ref z) 2 >>= _) _ _ _
  refine wpAny_bind (wpAny_field hz rfl (x := .bool true) rfl ?_)
  show wpAny _ _ (field (.ref z) 3 >>= _) _ _ _
  refine wpAny_bind (wpAny_field hz rfl (x := .ref TI) rfl ?_)
  refine wpAny_bind (wpAny_seqItems hTI rfl ?_)
  show wpAny _ _ (Builtin.SmallTypes.ownedTupleIsFree (.ref z) >>= _) _ _ _
  refine wpAny_bind ?_
  unfold Builtin.SmallTypes.ownedTupleIsFree
  refine wpAny_bind (wpAny_field hz rfl (x := .none) rfl (wpAny_pure ?_))
  simp only [if_true]
  refine wpAny_bind (wpAny_rule ?_)
  refine wpAny_bind (wpAny_field hz rfl (x := .ref TO) rfl ?_)
  refine wpAny_bind (wpAny_setField_rec hz (by simp) fun n1 hz1 hs1 => ?_)
  replace hz1 : IsZs n1 z TI TO .ellipsis := hz1
  refine wpAny_bind ?_
  simp only [List.zipIdx_cons, List.zipIdx_nil, List.forIn_cons, List.forIn_nil]
  refine wpAny_bind (wpAny_bind (wpAny_onRaise ?_))
  show wpAny _ _ (Builtin.SmallTypes.nextOrEnd (.ref i1)) _ _ _
  refine noe_end hh (h1.extBut hs1.extBut D.i1z) (hl1.extBut hs1.extBut D.l1z) hx fun n2 hs2 => ?_
  have hz2 : IsZs n2 z TI TO .ellipsis := hs2 _ _ D.i1z.symm hz1
  refine wpAny_bind (wpAny_setField_rec hz2 (by simp) fun n3 hz3 hs3 => ?_)
  have k3 : ∀ c o, c ≠ z → c ≠ i1 → s.heap.get? c = some o → n3.get? c = some o := fun c o c1 c2 e => hs3.extBut _ _ c1 (hs2 _ _ c2 (hs1.extBut _ _ c1 e))
  refine wpAny_bind ?_
  show wpAny _ _ (zsEnd [.ref i1, .ref i2] 0) _ _ _
  unfold zsEnd
  rw [if_neg (Nat.lt_irrefl 0)]
  simp only [List.drop_succ_cons, List.drop_zero, List.zipIdx_cons, List.zipIdx_nil, List.forIn_cons, List.forIn_nil]
  refine wpAny_bind (wpAny_bind ?_)
  refine wpAny_bind (noe_end hh (h2.at fun o e => k3 _ o D.i2z D.i12.symm e) (hl2.at fun o e => k3 _ o D.l2z D.l2i1 e) hy fun n4 hs4 => ?_)
  simp only [Option.isSome_none, Bool.false_eq_true, if_false]
  refine wpAny_pure (wpAny_pure ?_)
  refine wpAny_bind (wpAny_rule ?_)
  refine stop_it hh fun n5 e k5 he => ?_
  exact hE n5 e (fun c o c1 c2 c3 c4 x => k5 c o (hs4 _ _ c4 (k3 c o c1 c3 x))) he
theorem zs_next {z TI TO i1 i2 l1 l2 : Addr} {k1 k2 : Nat} {xs ys : Array Value} {x y a b : Value} {Q : Option Value → Shared → Prop} (D : ZipApart z TI TO i1 i2 l1 l2)
    (hz : IsZs s.heap z TI TO .none) (hTI : IsPair s.heap TI (.ref i1) (.ref i2)) (hTO : IsPair s.heap TO a b)
    (h1 : s.heap.IsListIter i1 l1 k1) (h2 : s.heap.IsListIter i2 l2 k2) (hl1 : s.heap.IsList l1 xs) (hl2 : s.heap.IsList l2 ys) (hx : xs[k1]? = some x) (hy : ys[k2]? = some y)
    (hQ : ∀ h', IsZs h' z TI TO (rawInt s.heap.objs.size) → IsPair h' TO x y → h'.IsListIter i1 l1 (k1 + 1) → h'.IsListIter i2 l2 (k2 + 1) → IsPair h' s.heap.objs.size x y → h'.objs.size = s.heap.objs.size + 1 →
      (∀ c o, c ≠ z → c ≠ TO → c ≠ i1 → c ≠ i2 → s.heap.get? c = some o → h'.get? c = some o) → Q (some (.ref s.heap.objs.size)) { s with heap := h' }) :
    wpAny (model prog w) A (pyNext (.ref z)) Q E s := by
  have hT : s.TypeIs (.ref z) "zip" := ⟨_, hz, rfl⟩
  unfold pyNext
  exact wpAny_bind (wpAny_attempt (wpAny_callSpecial?_slot (name := Str.ofString "__next__") hT F.slot_zip_next
    (wpAny_call_entry F.slot_zip_next hT F.entry_zip_next
      (zs_item D hz hTI hTO h1 h2 hl1 hl2 hx hy fun h' a1 a2 a3 a4 a5 a6 a7 => wpAny_pure (hQ h' a1 a2 a3 a4 a5 a6 a7)) (F.args_zip_next_1 _))))
theorem zs_stop {z TI TO i1 i2 l1 l2 : Addr} {k : Nat} {xs ys : Array Value} {a b : Value} {Q : Option Value → Shared → Prop} (hh : A.handled = none) (D : ZipApart z TI TO i1 i2 l1 l2)
    (hz : IsZs s.heap z TI TO .none) (hTI : IsPair s.heap TI (.ref i1) (.ref i2)) (hTO : IsPair s.heap TO a b)
    (h1 : s.heap.IsListIter i1 l1 k) (h2 : s.heap.IsListIter i2 l2 k) (hl1 : s.heap.IsList l1 xs) (hl2 : s.heap.IsList l2 ys) (hx : xs[k]? = none) (hy : ys[k]? = none)
    (hQ : ∀ h', (∀ c o, c ≠ z → c ≠ TO → c ≠ i1 → c ≠ i2 → s.heap.get? c = some o → h'.get? c = some o) → Q none { s with heap := h' }) : wpAny (model prog w) A (pyNext (.ref z)) Q E s := by
  have hT : s.TypeIs (.ref z) "zip" := ⟨_, hz, rfl⟩
  unfold pyNext
  refine wpAny_bind (wpAny_attempt (wpAny_callSpecial?_slot (name := Str.ofString "__next__") hT F.slot_zip_next
    (wpAny_call_entry F.slot_zip_next hT F.entry_zip_next (zs_end hh D hz hTI hTO h1 h2 hl1 hl2 hx hy fun h' e hk he => ?_) (F.args_zip_next_1 _))))
  obtain ⟨o, ho, hc⟩ := he
  refine wpAny_bind (wpAny_isInstance (T := "StopIteration") (b := true) ⟨o, ho, hc⟩ isSubtype_stop ?_)
  exact wpAny_pure (hQ _ hk)
theorem zs_go {elts : List Expr} {x1} {pos : Pos} {z TI TO T : Addr} {Q : Unit → Shared → Prop} (hz : IsZs s.heap z TI TO (rawInt T))
    (hQ : ∀ h', IsZs h' z TI TO .none → Heap.SameBut z s.heap h' → Q () { s with heap := h' }) :
    wpAny (model prog w) A (letOwnedTupleGo (.Tuple elts x1 pos) (.ref z) (.ref T)) Q E s := by
  unfold letOwnedTupleGo
  refine wpAny_bind (wpAny_load hz ?_)
  show wpAny _ _ (if (["enumerate", "zip", "dict_itemiterator", "dict_reverseitemiterator", "odict_iterator", "itertools.zip_longest", "itertools.pairwise"].contains "zip" &&
      (#[rawInt T, .bool false, .bool true, .ref TI, .ref TO] : Array Value)[0]? == some (rawInt T)) = true then _ else _) Q E s
  rw [if_pos (by simp)]
  refine wpAny_bind (wpAny_rule ?_)
  show wpAny _ _ (setField (.ref z) 0 .none) Q E s
  exact wpAny_setField_rec hz (by simp) fun h' hz' hs' => hQ h' hz' hs'
theorem zs_self {z TI TO : Addr} {f0 : Value} {Q : Value → Shared → Prop} (hz : IsZs s.heap z TI TO f0) (h : Q (.ref z) s) : wpAny (model prog w) A (pyIter (.ref z)) Q E s := by
  have hT : s.TypeIs (.ref z) "zip" := ⟨_, hz, rfl⟩
  refine wpAny_pyIter_slot hT F.slot_zip_iter (wpAny_call_entry F.slot_zip_iter hT F.entry_zip_iter ?_ (F.args_zip_iter_1 _))
  show wpAny _ _ (ret (.ref z)) _ _ s
  exact wpAny_pure ⟨_, rfl, "zip", _, hT, F.slot_zip_next.lookup, h⟩
theorem zs_with {M : Model} {env : Env} {pos : Pos} {T : String} {e : Expr} {rest : List Expr} {kws : List Keyword} {Q : Value → Shared → Prop}
    (h : wpAny M A (spliced (backTo pos (starEach (e :: rest) env))) (fun vs s1 => wpAny M A (evalAll ((backToKw pos (keywordEach kws env)).map (·.2)))
      (fun kvs s2 => wpAny M A (call (.type T) vs (((backToKw pos (keywordEach kws env)).filterMap (·.1)).zip kvs)) Q E s2) E s1) E s)
    (he : backTo pos (starEach (e :: rest) env) = (false, eval e env) :: backTo pos (starEach rest env))
    (hplain : (backTo pos (starEach (e :: rest) env)).any (·.1) = false)
    (hall : (backToKw pos (keywordEach kws env)).all (·.1.isSome) = true)
    (hkw : (backToKw pos (keywordEach kws env)).any (·.1.isNone) = false) :
    wpAny M A (callWith pos (.type T) [] (backTo pos (starEach (e :: rest) env)) (backToKw pos (keywordEach kws env))) Q E s := by
  have h' : wpAny M A (evalArgs (.type T) true (backTo pos (starEach (e :: rest) env)) (backToKw pos (keywordEach kws env))) (fun a s1 => wpAny M A (call (.type T) ([] ++ a.pos) a.kw) Q E s1) E s := by
    rw [he] at h ⊢
    exact evalArgs_kwB hall h
  unfold callWith
  refine wpAny_bind (wpAny_holding (wpAny_mono h' (fun a s1 h1 => wpAny_bind (wpAny_standAt ?_)) fun _ _ x => x))
  simp only [hplain, hkw, Bool.or_false]
  refine wpAny_bind (wpAny_pure ?_)
  exact wpAny_bind (wpAny_mono h1 (fun r s2 hr => wpAny_bind (wpAny_holding (wpAny_point (wpAny_pure hr)))) fun _ _ x => x)
/-- pairs, both of one length -/
def ItzS (K : Fg) (a b : Addr) : It :=
  ⟨fun i H => ∃ (xs ys : List V) (x y : V), SqL K H a xs ∧ SqL K H b ys ∧ xs[i]? = some x ∧ ys[i]? = some y,
    fun i H v H' => ∃ T x y, v = .ref T ∧ H T = none ∧ H' = upd H T (.tup [x, y]) ∧ (∀ xs, SqL K H a xs → xs[i]? = some x) ∧ ∀ ys, SqL K H b ys → ys[i]? = some y,
    fun i H => ∃ xs ys : List V, SqL K H a xs ∧ SqL K H b ys ∧ xs.length ≤ i ∧ ys.length ≤ i⟩
theorem zs_turn {P : Program} {w : World} {K : Fg} {elts : List Expr} {kk : Nat} {tpos : Pos} {a b z TI TO i1 i2 : Addr} (D : ZipApart z TI TO i1 i2 a b) :
    Turn P w K (.Tuple elts kk tpos) (ItzS K a b) [z, TI, TO, i1, i2] z (fun i h => IsZs h z TI TO .none ∧ IsPair h TI (.ref i1) (.ref i2) ∧ (∃ x y, IsPair h TO x y) ∧ h.IsListIter i1 a i ∧ h.IsListIter i2 b i) where
  mem := by simp
  obj := fun i h st c hc => by
    obtain ⟨hz, hTI, ⟨x, y, hTO⟩, ⟨o1, e1, _, d1⟩, ⟨o2, e2, _, d2⟩⟩ := st
    have e' : c = z ∨ c = TI ∨ c = TO ∨ c = i1 ∨ c = i2 := by simpa using hc
    rcases e' with q | q | q | q | q
    · rw [q]; exact ⟨_, hz, fun v q => nomatch q⟩
    · rw [q]; exact ⟨_, hTI, fun v q => nomatch q⟩
    · rw [q]; exact ⟨_, hTO, fun v q => nomatch q⟩
    · rw [q]; exact ⟨o1, e1, fun v q => by rw [d1] at q; cases q⟩
    · rw [q]; exact ⟨o2, e2, fun v q => by rw [d2] at q; cases q⟩
  keep := fun i h h' st k => by
    obtain ⟨hz, hTI, ⟨x, y, hTO⟩, h1, h2⟩ := st
    exact ⟨k z (by simp) _ hz, k TI (by simp) _ hTI, ⟨x, y, k TO (by simp) _ hTO⟩, h1.at fun o q => k i1 (by simp) o q, h2.at fun o q => k i2 (by simp) o q⟩
  item := by
    intro X hP hw hK hc i pins s σ H E I hf st hg
    subst hP hw hK
    obtain ⟨hz, hTI, ⟨x0, y0, hTO⟩, h1, h2⟩ := st
    obtain ⟨xs, ys, x, y, hqx, hqy, hx, hy⟩ := hg
    obtain ⟨its, rv, p, _⟩ := I.list hqx
    obtain ⟨its2, rv2, p2, _⟩ := I.list hqy
    obtain ⟨u, hu, ru⟩ := rv.get hx
    obtain ⟨u2, hu2, ru2⟩ := rv2.get hy
    have hzl : z < s.heap.objs.size := Heap.lt_size hz
    refine zs_next D hz hTI hTO h1 h2 p.isList p2.isList (x := u) (y := u2) (by simpa using hu) (by simpa using hu2) fun h' z' TO' h1' h2' hT hsz hk => ?_
    refine ⟨_, rfl, zs_go (s := { s with heap := h' }) z' fun h'' z'' sb => ?_⟩
    have hT2 : h''.get? s.heap.objs.size = some { cls := .type "tuple", data := .seq #[u, u2] } := (sb.2 _ (Nat.ne_of_gt hzl)).trans hT
    have new : ObjOk X.prog X.w (upd H s.heap.objs.size (.tup [x, y])) h'' s.heap.objs.size (.tup [x, y]) :=
      ⟨by show 2 ≤ sizeLine; decide, [u, u2], .cons ru (.cons ru2 .nil), ⟨_, hT2, rfl, _, rfl⟩⟩
    have I1 : Inv X pins σ (upd H s.heap.objs.size (.tup [x, y])) { s with heap := h'' } :=
      I.turnedNew (t' := s.toks) (ch := [z, TI, TO, i1, i2]) (fun c o hb q => (sb.2 c (fun q' => hb (by simp [q']))).trans (hk c o (fun q' => hb (by simp [q'])) (fun q' => hb (by simp [q'])) (fun q' => hb (by simp [q'])) (fun q' => hb (by simp [q'])) q)) hf (Nat.le_refl _) new
    refine ⟨.ref s.heap.objs.size, _, I1, rfl, ⟨_, x, y, rfl, I.hok.fresh (Nat.le_refl _), rfl, fun l hl => by rw [I.list_inj hl hqx]; exact hx, fun l hl => by rw [I.list_inj hl hqy]; exact hy⟩, ⟨z'', ?_, ⟨u, u2, ?_⟩, ?_, ?_⟩, fun c hcm => ?_⟩
    · exact (sb.2 _ D.TIz).trans (hk _ _ D.TIz D.TITO D.TIi1 D.TIi2 hTI)
    · exact (sb.2 _ D.TOz).trans TO'
    · exact h1'.at fun o q => (sb.2 _ D.i1z).trans q
    · exact h2'.at fun o q => (sb.2 _ D.i2z).trans q
    · have hlt : c < s.heap.objs.size := by
        have e' : c = z ∨ c = TI ∨ c = TO ∨ c = i1 ∨ c = i2 := by simpa using hcm
        rcases e' with q | q | q | q | q
        · rw [q]; exact hzl
        · rw [q]; exact Heap.lt_size hTI
        · rw [q]; exact Heap.lt_size hTO
        · rw [q]; obtain ⟨_, e1, _⟩ := h1; exact Heap.lt_size e1
        · rw [q]; obtain ⟨_, e2, _⟩ := h2; exact Heap.lt_size e2
      rw [upd_ne (Nat.ne_of_lt hlt)]
      exact (hf c hcm).1
  done := by
    intro X hP hw hK hc i pins s σ H E I hf st hg
    subst hP hw hK
    obtain ⟨hz, hTI, ⟨x0, y0, hTO⟩, h1, h2⟩ := st
    obtain ⟨xs, ys, hqx, hqy, n1, n2⟩ := hg
    obtain ⟨its, rv, p, _⟩ := I.list hqx
    obtain ⟨its2, rv2, p2, _⟩ := I.list hqy
    have l1 := rv.length
    have l2 := rv2.length
    exact zs_stop (I.ok.hd hc) D hz hTI hTO h1 h2 p.isList p2.isList (by simp; omega) (by simp; omega) fun h' hk => ⟨rfl, I.turnedL (t' := s.toks) (ch := [z, TI, TO, i1, i2]) (fun c o hb q =>
      hk c o (fun q' => hb (by simp [q'])) (fun q' => hb (by simp [q'])) (fun q' => hb (by simp [q'])) (fun q' => hb (by simp [q'])) q) hf⟩
  self := fun A i s Q E st h => zs_self st.1 h
def iZipS (K : Fg) (ta : TA) : TI := fun σ H R => ta σ H fun vs H1 => ∃ a b xs ys, vs = [.ref a, .ref b] ∧ SqL K H1 a xs ∧ SqL K H1 b ys ∧ R (ItzS K a b) H1
theorem pi_zipS {X : Cx} {e e2 : Expr} {ta : TA} {p pos tpos : Pos} {elts : List Expr} {kk : Nat} {kws : List Keyword} (hg : Gl X "zip") (hm : X.mg "zip" = none) (ha : PA X [e, e2] ta) (hkw : PK X kws (tCons (tC (.bl true)) tNil))
    (he : backTo pos (starEach [e, e2] X.env) = (false, eval e X.env) :: backTo pos (starEach [e2] X.env) := by rfl) (hplain : (backTo pos (starEach [e, e2] X.env)).any (·.1) = false := by rfl)
    (hall : (backToKw pos (keywordEach kws X.env)).all (·.1.isSome) = true := by rfl) (hno : (backToKw pos (keywordEach kws X.env)).any (·.1.isNone) = false := by rfl) (hks : (backToKw pos (keywordEach kws X.env)).filterMap (·.1) = [Str.ofString "strict"] := by rfl) :
    PI X (.Tuple elts kk tpos) (.Call (.Name "zip" p) [e, e2] kws pos) (iZipS X.K ta) := by
  refine ⟨fun pins s σ H R I h => ?_⟩
  refine wpAny_Call_Name_kw (ld_blt I hg hm PyProof.Rows.boot_zip (zs_with (thn (ha.run pos pins s σ H _ I h) fun us s1 ⟨vs, H1, I1, r1, q1⟩ => ?_) he hplain hall hno))
  obtain ⟨a, b, xs, ys, ex, hqx, hqy, q⟩ := q1
  refine thn (hkw.run pos pins s1 σ H1 (fun zs H2 => zs = [.bl true] ∧ H2 = H1) I1 ⟨rfl, rfl⟩) fun ws s2 ⟨zs, H2, I2, rz, ez, eH⟩ => ?_
  subst ex ez eH
  rw [hks]
  cases r1 with
  | cons r rr =>
    cases rr with
    | cons r' rr =>
      cases rr
      cases r
      cases r'
      cases rz with
      | cons k kk =>
        cases kk
        cases k
        obtain ⟨its, rv, p1, _⟩ := I2.list hqx
        obtain ⟨its2, rv2, p2, _⟩ := I2.list hqy
        have la : a < s2.heap.objs.size := p1.lt
        have lb : b < s2.heap.objs.size := p2.lt
        refine zs_call2 p1.isList p2.isList fun h' hz hTI hTO h1 h2 hsz hk => zs_self hz ?_
        have I3 : Inv X pins σ H2 { s2 with heap := h' } := I2.kept (t' := s2.toks) hk
        refine ⟨s2.heap.objs.size + 4, [s2.heap.objs.size + 4, s2.heap.objs.size + 2, s2.heap.objs.size + 3, s2.heap.objs.size, s2.heap.objs.size + 1], _, _, H2, rfl, I3, zs_turn (PySem.W.ktu_apart s2.heap.objs.size a b la lb), ⟨hz, hTI, ⟨_, _, hTO⟩, h1, h2⟩, fun c hcm => ?_, q⟩
        have e' : c = s2.heap.objs.size + 4 ∨ c = s2.heap.objs.size + 2 ∨ c = s2.heap.objs.size + 3 ∨ c = s2.heap.objs.size ∨ c = s2.heap.objs.size + 1 := by simpa using hcm
        have hle : s2.heap.objs.size ≤ c := by
          rcases e' with z | z | z | z | z
          · rw [z]; exact Nat.le_add_right _ _
          · rw [z]; exact Nat.le_add_right _ _
          · rw [z]; exact Nat.le_add_right _ _
          · rw [z]; exact Nat.le_refl _
          · rw [z]; exact Nat.le_add_right _ _
        exact I2.fpOk hle (I2.hok.fresh hle)
theorem pizipS (K : Fg) {X : Cx} {e e2 : Expr} {ta : TA} {p pos tpos : Pos} {elts : List Expr} {kk : Nat} {kws : List Keyword} (hg : Gl X "zip") (hm : X.mg "zip" = none) (ha : PA X [e, e2] ta) (hkw : PK X kws (tCons (tC (.bl true)) tNil)) (h : X.K = K := by rfl)
    (he : backTo pos (starEach [e, e2] X.env) = (false, eval e X.env) :: backTo pos (starEach [e2] X.env) := by rfl) (hplain : (backTo pos (starEach [e, e2] X.env)).any (·.1) = false := by rfl)
    (hall : (backToKw pos (keywordEach kws X.env)).all (·.1.isSome) = true := by rfl) (hno : (backToKw pos (keywordEach kws X.env)).any (·.1.isNone) = false := by rfl) (hks : (backToKw pos (keywordEach kws X.env)).filterMap (·.1) = [Str.ofString "strict"] := by rfl) :
    PI X (.Tuple elts kk tpos) (.Call (.Name "zip" p) [e, e2] kws pos) (iZipS K ta) := by cases h; exact pi_zipS hg hm ha hkw he hplain hall hno hks
end
section
variable {K : Fg} {G : Ctx} {ta tb : TE}
theorem it_zipS {α β : Type} {as : List α} {bs : List β} {ea : α → D} {eb : β → D} (hl : as.length = bs.length) (h : EvD K ta G (.lst (as.map ea))) (h2 : EvD K tb G (.lst (bs.map eb))) : ItD K (iZipS K (tCons ta (tCons tb tNil))) G ((as.zip bs).map (encZ ea eb)) := fun F0 H0 F H σ s R q =>
  h F0 H0 F H σ s _ fun v F1 H1 t1 r1 => h2 F0 H0 F1 H1 σ (s.step t1) _ fun w F2 H2 t2 r2 => by
    obtain ⟨a, vs, rfl, h1, h2⟩ := r1
    obtain ⟨b, ws, rfl, k1, k2⟩ := r2
    have hl1 := h2.len
    have kl := k2.len
    rw [List.length_map] at hl1 kl
    have h1' := t2.ff _ _ h1
    refine ⟨a, b, vs, ws, rfl, .inl (.inl (t2.fh _ _ h1')), .inl (.inl (t2.fh _ _ k1)), q _ F2 H2 (t1.trans t2) fun F3 H3 f3 g3 => ?_⟩
    have hs : SqL K H3 a vs := .inl (.inl (g3 _ _ (f3 _ _ h1')))
    have ks : SqL K H3 b ws := .inl (.inl (g3 _ _ (f3 _ _ k1)))
    refine ⟨fun i d hd => ?_, fun i hi => ⟨vs, ws, hs, ks, by simp at hi; omega, by simp at hi; omega⟩⟩
    rw [List.getElem?_map] at hd
    cases ez : (as.zip bs)[i]? with
    | none => rw [ez] at hd; cases hd
    | some p =>
      rw [ez] at hd
      cases hd
      obtain ⟨e1, e2⟩ := List.getElem?_zip_eq_some.mp ez
      obtain ⟨x, hx, rx⟩ := h2.get (i := i) (d := ea p.1) (by rw [List.getElem?_map, e1]; rfl)
      obtain ⟨y, hy, ry⟩ := k2.get (i := i) (d := eb p.2) (by rw [List.getElem?_map, e2]; rfl)
      refine ⟨⟨vs, ws, x, y, hs, ks, hx, hy⟩, fun z H4 hz => ?_⟩
      obtain ⟨T, x', y', rfl, hT, rfl, g1, g2⟩ := hz
      have z1 := g1 vs hs
      have z2 := g2 ws ks
      rw [hx] at z1
      rw [hy] at z2
      cases z1
      cases z2
      have sm := same_new (o := .tup [x, y]) (g3.free hT)
      exact ⟨upd F3 T (.tup [x, y]), Step.newF g3 hT, T, _, rfl, .inl (.inl upd_same), x, [y], rfl, Rep.mono ((t2.ff.trans f3).trans sm) _ _ rx, y, [], rfl, Rep.mono (f3.trans sm) _ _ ry, rfl⟩
end
end Cw
set_option maxHeartbeats 4000000
namespace Cw
open PySem PySem.Spec PyProof.Rows L2
/-! ### a new list of new lists, no two the same -/
def FrL (H : Hp) (us : List V) : Prop := us.Nodup ∧ ∀ u ∈ us, ∃ q, u = .ref q ∧ H q = none
def XF (i : Nat) (H0 H : Hp) (σ : L2.St) : Prop := ∃ a us, σ[i]? = some (some (.ref a)) ∧ H a = some (.lst us) ∧ FrL H0 us
/-- a def that hands back such a list -/
def spX (K : Fg) (P : List D → List D → Prop) : Sp := fun vs H Q _ => ∃ F ds es, Same F H ∧ Reps K F ds vs ∧ P ds es ∧ ∀ p us F' H', Step F H F' H' → H p = none → F' p = none → H' p = some (.lst us) → Reps K F' es us → FrL H us → Q (.ref p) H'
theorem spX_len {K : Fg} {P : List D → List D → Prop} {n : Nat} (h : ∀ ds d, P ds d → ds.length = n) : ∀ (vs : List V) (H : Hp) (Q : VK) (E : XK), spX K P vs H Q E → vs.length = n := fun vs H Q E ⟨F, ds, d, _, r, p, _⟩ => by rw [r.len, h ds d p]
section
variable {K : Fg} {G : Ctx} {te : TE} {tr : TA} {t : TS} {ds es : List D}
theorem en_callX {P : List D → List D → Prop} {E : XK} (h : EvA K tr G ds) (p : P ds es) : EvN K (tCall (spX K P) [] E tr) G es := fun F0 H0 F H σ s Q q =>
  h F0 H0 F H σ s _ fun vs F1 H1 t1 r1 => ⟨F1, ds, es, t1.fh, by rw [List.append_nil]; exact r1, p, fun p us F2 H2 t2 h1 h2 h3 r2 _ => q p us F2 H2 (t1.trans t2) (t1.hh.free h1) h2 h3 r2⟩
theorem FrL.mono {H H' : Hp} {us : List V} (h : FrL H' us) (s : Same H H') : FrL H us := ⟨h.1, fun u hu => by
  obtain ⟨q, e, f⟩ := h.2 u hu
  exact ⟨q, e, s.free f⟩⟩
theorem st_forX {α S : Type} {wi : TI} {g : TG} {as : List α} {enc : α → D} {Gs : S → Ctx} {step : S → α → S} {s0 : S} {j : Nat} {xs0 : List D} (hi : ItD K wi (Gs s0) (as.map enc)) (hown : ∀ s, ∃ xs, (Gs s)[j]? = some (.own xs))
    (hb : ∀ pre x post, as = pre ++ x :: post → ∃ Gt is, TgD K g (enc x) (Gs (pre.foldl step s0)) Gt is ∧ j ∉ is ∧ ∀ F0 H0 F H σ E, SOk K F0 H0 F H σ Gt → XF j H0 H σ →
      (∀ σ' F' H', SOk K F0 H0 F' H' σ' (Gs (step (pre.foldl step s0) x)) → Same F F' → XF j H0 H' σ' → E.nx σ' H') → t E σ H)
    {F0 H0 F H : Hp} {σ : L2.St} {E : Ends} (s : SOk K F0 H0 F H σ (Gs s0)) (hx0 : XF j H0 H σ)
    (q : ∀ σ' F' H', SOk K F0 H0 F' H' σ' (Gs (as.foldl step s0)) → Same F F' → XF j H0 H' σ' → E.nx σ' H') : tFor wi g t E σ H := by
  refine hi F0 H0 F H σ s _ fun J F1 H1 t1 w => ?_
  have keep : ∀ {Fa Ha Fb Hb : Hp} {σa : L2.St} {sa : S}, SOk K F0 H0 Fa Ha σa (Gs sa) → XF j H0 Ha σa → Step Fa Ha Fb Hb → XF j H0 Hb σa := fun sa x st => by
    obtain ⟨a, us, e1, e2, e3⟩ := x
    exact ⟨a, us, e1, st.hh _ _ e2, e3⟩
  refine ⟨fun i m σ' H' => m = as.length - i ∧ i ≤ as.length ∧ ∃ F', SOk K F0 H0 F' H' σ' (Gs ((as.take i).foldl step s0)) ∧ Same F1 F' ∧ XF j H0 H' σ', ⟨as.length, rfl, Nat.zero_le _, F1, s.step t1, Same.refl _, keep s hx0 t1⟩, ?_⟩
  rintro i m σ' H' ⟨rfl, hi, F', s', sf, hx'⟩
  obtain ⟨w1, w2⟩ := w F' H' sf s'.fh
  by_cases hlt : i < as.length
  · have hx : (as.map enc)[i]? = some (enc as[i]) := by rw [List.getElem?_map, List.getElem?_eq_getElem hlt]; rfl
    obtain ⟨go, yl⟩ := w1 i _ hx
    have e1 : as = as.take i ++ as[i] :: as.drop (i + 1) := by rw [List.getElem_cons_drop]; exact (List.take_append_drop i as).symm
    obtain ⟨Gt, is, tg, hj, bd⟩ := hb _ _ _ e1
    have e2 : (as.take (i + 1)).foldl step s0 = step ((as.take i).foldl step s0) as[i] := by rw [← take_snoc as i hlt, List.foldl_append]; rfl
    refine .inr ⟨go, fun σ2 H2 => ∃ F2, SOk K F0 H0 F2 H2 σ2 (Gs ((as.take (i + 1)).foldl step s0)) ∧ Same F1 F2 ∧ XF j H0 H2 σ2, fun σ2 H2 ⟨F2, p1, p2, p3⟩ => ⟨as.length - (i + 1), by omega, rfl, hlt, F2, p1, p2, p3⟩, fun x H2 y => ?_⟩
    obtain ⟨F2, t2, r2⟩ := yl x H2 y
    refine tg F0 H0 F2 H2 σ' x (s'.step t2) r2 _ fun σ3 s3 _ hsame => ?_
    rw [e2]
    have hx2 := keep s' hx' t2
    have hx3 : XF j H0 H2 σ3 := by
      obtain ⟨a, us, c1, c2, c3⟩ := hx2
      exact ⟨a, us, by rw [hsame j hj]; exact c1, c2, c3⟩
    refine bd F0 H0 F2 H2 σ3 _ s3 hx3 fun σ4 F4 H4 s4 f4 x4 => ?_
    have : Same F1 F4 := (sf.trans t2.ff).trans f4
    exact ⟨F4, s4, this, x4⟩
  · have e : i = as.length := by omega
    subst e
    rw [List.take_length] at s'
    exact .inl ⟨w2 _ (by simp), q σ' F' H' s' (t1.ff.trans sf) hx'⟩
theorem mem_rep {F : Hp} {q : Addr} : ∀ {es : List D} {us : List V}, Reps K F es us → (∀ e ∈ es, ∃ l, e = .lst l) → V.ref q ∈ us → F q ≠ none
  | [], us, r, _, m => by
    have : us = [] := r
    subst this
    exact absurd m List.not_mem_nil
  | e :: es, us, r, h, m => by
    obtain ⟨v, vs, rfl, h1, h2⟩ := r
    rcases List.mem_cons.mp m with z | z
    · obtain ⟨l, rfl⟩ := h e (List.mem_cons_self ..)
      obtain ⟨a, ws, e1, e2, _⟩ := h1
      rw [← z] at e1
      cases e1
      rw [e2]; simp
    · exact mem_rep h2 (fun x hx => h x (List.mem_cons_of_mem _ hx)) z
/-- found.append([..]) with a new list -/
theorem app_X {i : Nat} {xs : List D} (hi : G[i]? = some (.own xs)) (hl : xs.length < sizeLine) (hls : ∀ e ∈ xs, ∃ l, e = .lst l) (h : EvN K te G ds) {F0 H0 F H : Hp} {σ : L2.St} {E : Ends} (s : SOk K F0 H0 F H σ G) (hx : XF i H0 H σ)
    (q : ∀ F' H', SOk K F0 H0 F' H' σ (G.set i (.own (xs ++ [.lst ds]))) → Same F F' → XF i H0 H' σ → E.nx σ H') : tDrop (tBM K "list" rAppend (tVar i) (tCons te tNil)) E σ H := by
  obtain ⟨p, vs, e, h1, h2, h3, h4⟩ := s.own hi
  obtain ⟨a, us, c1, c2, c3⟩ := hx
  have ea : a = p := by rw [e] at c1; cases c1; rfl
  subst ea
  rw [h1] at c2
  cases c2
  refine ⟨.ref a, e, .inl ⟨rfl, _, .inl (.inl h1)⟩, h F0 H0 F H σ s _ fun y ys F1 H1 t1 hy1 hy2 hy3 ry => ?_⟩
  have t2 : Step F H (upd F1 y (.lst ys)) H1 := t1.pub hy1 hy2 hy3
  have s1 := s.step t2
  have r1 : Rep K (upd F1 y (.lst ys)) (.lst ds) (.ref y) := ⟨y, ys, rfl, upd_same, Reps.mono (same_new hy2) _ _ ry⟩
  have hny : V.ref y ∉ vs := fun m => by
    have := mem_rep h4 hls m
    cases z : F y with
    | none => exact this z
    | some o => rw [s.st.fh _ _ z] at hy1; cases hy1
  refine ⟨a, vs, .ref y, rfl, rfl, t2.hh _ _ h1, by rw [h4.len]; exact hl, q _ _ (s1.mutOwn hi e ((Reps.mono t2.ff _ _ h4).app (Reps.one r1))) t2.ff ⟨a, vs ++ [.ref y], e, upd_same, ?_, fun u hu => ?_⟩⟩
  · rw [List.nodup_append]
    refine ⟨c3.1, by simp, fun u hu v hv z => ?_⟩
    rw [List.mem_singleton.mp hv] at z
    subst z
    exact hny hu
  · rcases List.mem_append.mp hu with m | m
    · exact c3.2 u m
    · exact ⟨y, List.mem_singleton.mp m, s.st.hh.free hy1⟩
theorem set_X {i k : Nat} {d : D} (ne : i ≠ k) (h : EvD K te G d) {F0 H0 F H : Hp} {σ : L2.St} {E : Ends} (s : SOk K F0 H0 F H σ G) (hx : XF i H0 H σ)
    (q : ∀ v F' H', SOk K F0 H0 F' H' (σ.set k (some v)) (G.set k (.val d)) → Same F F' → XF i H0 H' (σ.set k (some v)) → E.nx (σ.set k (some v)) H') : tAsg te (gName k) E σ H :=
  h F0 H0 F H σ s _ fun v F1 H1 t1 r1 => by
    obtain ⟨a, us, c1, c2, c3⟩ := hx
    exact q v F1 H1 ((s.step t1).set r1) t1.ff ⟨a, us, by rw [List.getElem?_set_ne (fun z => ne z.symm)]; exact c1, t1.hh _ _ c2, c3⟩
theorem xf_nil {i : Nat} {F0 H0 F H : Hp} {σ : L2.St} (hi : G[i]? = some (.own [])) (s : SOk K F0 H0 F H σ G) : XF i H0 H σ := by
  obtain ⟨p, vs, e, h1, h2, h3, h4⟩ := s.own hi
  have : vs = [] := h4
  subst this
  exact ⟨p, [], e, h1, List.nodup_nil, fun u h => absurd h List.not_mem_nil⟩
/-- return found -/
theorem ret_X {i : Nat} {F0 H0 F H : Hp} {σ : L2.St} {E : Ends} (hi : G[i]? = some (.own es)) (s : SOk K F0 H0 F H σ G) (hx : XF i H0 H σ) (q : ∀ p us, Step F0 H0 F H → H0 p = none → F p = none → H p = some (.lst us) → Reps K F es us → FrL H0 us → E.rt (.ref p) H) : tRet (tVar i) E σ H := by
  obtain ⟨p, vs, e, h1, h2, h3, h4⟩ := s.own hi
  obtain ⟨a, us, c1, c2, c3⟩ := hx
  have ea : a = p := by rw [e] at c1; cases c1; rfl
  subst ea
  rw [h1] at c2
  cases c2
  exact ⟨.ref a, e, q a vs s.st h3 h2 h1 h4 c3⟩
end
end Cw
set_option maxHeartbeats 4000000
namespace Cw
open PySem PySem.Spec PyProof.Rows L2
/-! ### what a def computes, as plain functions that may stop (none: a side condition fails) -/
section
variable {α β γ σ ρ : Type}
theorem bnd {m : Option α} {k : α → Option β} {r : β} (h : m.bind k = some r) : ∃ a, m = some a ∧ k a = some r := by
  cases m with
  | none => cases h
  | some a => exact ⟨a, rfl, h⟩
theorem bnd_of {m : Option α} {k : α → Option β} {a : α} (h : m = some a) : m.bind k = k a := by rw [h]; rfl
def gd (c : Prop) [Decidable c] (a : α) : Option α := if c then some a else none
theorem gd_ok {c : Prop} [Decidable c] {a b : α} (h : gd c a = some b) : c ∧ a = b := by
  unfold gd at h
  split at h
  · exact ⟨‹_›, Option.some.inj h⟩
  · cases h
theorem gd_of {c : Prop} [Decidable c] {a : α} (h : c) : gd c a = some a := if_pos h
theorem if_t {b : Bool} {x y : α} (z : b = true) : (if b = true then x else y) = x := if_pos z
theorem if_f {b : Bool} {x y : α} (z : b = false) : (if b = true then x else y) = y := if_neg (by rw [z]; exact Bool.false_ne_true)
def mapO (f : α → Option β) : List α → Option (List β)
  | [] => some []
  | a :: l => (f a).bind fun b => (mapO f l).bind fun r => some (b :: r)
theorem mapO_ok {f : α → Option β} : ∀ {as : List α} {ys : List β}, mapO f as = some ys → (∀ x ∈ as, ∃ y, f x = some y) ∧ ∀ (g : β → γ) (d : γ), as.map (fun x => match f x with | some y => g y | none => d) = ys.map g
  | [], ys, h => by
    cases h
    exact ⟨fun x hx => absurd hx List.not_mem_nil, fun _ _ => rfl⟩
  | a :: as, ys, h => by
    obtain ⟨b, hb, h⟩ := bnd h
    obtain ⟨r, hr, h⟩ := bnd h
    cases h
    obtain ⟨i1, i2⟩ := mapO_ok hr
    refine ⟨fun x hx => ?_, fun g d => ?_⟩
    · rcases List.mem_cons.mp hx with rfl | hx
      · exact ⟨b, hb⟩
      · exact i1 x hx
    · rw [List.map_cons, List.map_cons, i2 g d, hb]
theorem mapO_of {f : α → Option β} {g : α → β} : ∀ {as : List α}, (∀ x ∈ as, f x = some (g x)) → mapO f as = some (as.map g)
  | [], _ => rfl
  | a :: as, h => by
    show (f a).bind _ = _
    rw [h a List.mem_cons_self, Option.bind_some, mapO_of fun x hx => h x (List.mem_cons_of_mem _ hx)]
    rfl
theorem mapO_len {f : α → Option β} : ∀ {as : List α} {ys : List β}, mapO f as = some ys → ys.length = as.length
  | [], ys, h => by cases h; rfl
  | a :: as, ys, h => by
    obtain ⟨b, hb, h⟩ := bnd h
    obtain ⟨r, hr, h⟩ := bnd h
    cases h
    rw [List.length_cons, List.length_cons, mapO_len hr]
def fltO (c : α → Option Bool) (e : α → Option β) : List α → Option (List β)
  | [] => some []
  | a :: l => (c a).bind fun b => if b = true then (e a).bind fun y => (fltO c e l).bind fun r => some (y :: r) else fltO c e l
theorem fltO_ok {c : α → Option Bool} {e : α → Option β} : ∀ {as : List α} {ys : List β}, fltO c e as = some ys → (∀ x ∈ as, ∃ b, c x = some b ∧ (b = true → ∃ y, e x = some y)) ∧
    ∀ (g : β → γ) (d : γ), (as.filter fun x => (c x).getD false).map (fun x => match e x with | some y => g y | none => d) = ys.map g
  | [], ys, h => by
    cases h
    exact ⟨fun x hx => absurd hx List.not_mem_nil, fun _ _ => rfl⟩
  | a :: as, ys, h => by
    obtain ⟨b, hb, h⟩ := bnd h
    cases b with
    | true =>
      rw [if_t rfl] at h
      obtain ⟨y, hy, h⟩ := bnd h
      obtain ⟨r, hr, h⟩ := bnd h
      cases h
      obtain ⟨i1, i2⟩ := fltO_ok hr
      refine ⟨fun x hx => ?_, fun g d => ?_⟩
      · rcases List.mem_cons.mp hx with rfl | hx
        · exact ⟨true, hb, fun _ => ⟨y, hy⟩⟩
        · exact i1 x hx
      · rw [List.filter_cons_of_pos (by rw [hb]; rfl), List.map_cons, List.map_cons, i2 g d, hy]
    | false =>
      rw [if_f rfl] at h
      obtain ⟨i1, i2⟩ := fltO_ok h
      refine ⟨fun x hx => ?_, fun g d => ?_⟩
      · rcases List.mem_cons.mp hx with rfl | hx
        · exact ⟨false, hb, fun z => nomatch z⟩
        · exact i1 x hx
      · rw [List.filter_cons_of_neg (by rw [hb]; exact Bool.false_ne_true), i2 g d]
theorem fltO_of {c : α → Option Bool} {e : α → Option β} {p : α → Bool} {g : α → β} : ∀ {as : List α}, (∀ x ∈ as, c x = some (p x)) → (∀ x ∈ as, p x = true → e x = some (g x)) → fltO c e as = some ((as.filter p).map g)
  | [], _, _ => rfl
  | a :: as, h, k => by
    have ih := fltO_of (as := as) (fun x hx => h x (List.mem_cons_of_mem _ hx)) fun x hx => k x (List.mem_cons_of_mem _ hx)
    show (c a).bind _ = _
    rw [h a List.mem_cons_self, Option.bind_some]
    cases z : p a with
    | true =>
      rw [if_t rfl, k a List.mem_cons_self z, Option.bind_some, ih, List.filter_cons_of_pos z]
      rfl
    | false =>
      rw [if_f rfl, ih, List.filter_cons_of_neg (by rw [z]; exact Bool.false_ne_true)]
def foldO (f : σ → α → Option σ) : σ → List α → Option σ
  | s, [] => some s
  | s, a :: l => (f s a).bind fun s' => foldO f s' l
theorem foldO_of {f : σ → α → Option σ} {g : σ → α → σ} {I : σ → Prop} : ∀ {l : List α} {s : σ}, I s → (∀ s x, I s → x ∈ l → f s x = some (g s x) ∧ I (g s x)) → foldO f s l = some (l.foldl g s) ∧ I (l.foldl g s)
  | [], s, h, _ => ⟨rfl, h⟩
  | a :: l, s, h, k => by
    obtain ⟨k1, k2⟩ := k s a h List.mem_cons_self
    show (f s a).bind _ = _ ∧ _
    rw [k1, Option.bind_some]
    exact foldO_of k2 fun s x hs hx => k s x hs (List.mem_cons_of_mem _ hx)
theorem foldO_app {f : σ → α → Option σ} : ∀ {l m : List α} {s r : σ}, foldO f s (l ++ m) = some r → ∃ t, foldO f s l = some t ∧ foldO f t m = some r
  | [], m, s, r, h => ⟨s, rfl, h⟩
  | a :: l, m, s, r, h => by
    obtain ⟨s', h1, h2⟩ := bnd (show (f s a).bind (fun s' => foldO f s' (l ++ m)) = some r from h)
    obtain ⟨t, h3, h4⟩ := foldO_app h2
    exact ⟨t, by show (f s a).bind _ = _; rw [h1]; exact h3, h4⟩
theorem foldO_fl {f : σ → α → Option σ} : ∀ {l : List α} {s r : σ}, foldO f s l = some r → l.foldl (fun s x => (f s x).getD s) s = r
  | [], s, r, h => Option.some.inj h
  | a :: l, s, r, h => by
    obtain ⟨s', h1, h2⟩ := bnd (show (f s a).bind (fun s' => foldO f s' l) = some r from h)
    rw [List.foldl_cons, h1]
    exact foldO_fl h2
/-- a loop that may return -/
def foldR (f : σ → α → Option (ρ ⊕ σ)) : σ → List α → Option (ρ ⊕ σ)
  | s, [] => some (.inr s)
  | s, a :: l => (f s a).bind fun o => match o with
    | .inl r => some (.inl r)
    | .inr s' => foldR f s' l
def stp (f : σ → α → Option (ρ ⊕ σ)) (s : σ) (x : α) : σ := match f s x with
  | some (.inr s') => s'
  | _ => s
theorem foldR_ok {f : σ → α → Option (ρ ⊕ σ)} : ∀ {l : List α} {s : σ} {o : ρ ⊕ σ}, foldR f s l = some o →
    (∃ s', o = .inr s' ∧ l.foldl (stp f) s = s' ∧ ∀ pre x post, l = pre ++ x :: post → f (pre.foldl (stp f) s) x = some (.inr (stp f (pre.foldl (stp f) s) x))) ∨
    (∃ r pre x post, o = .inl r ∧ l = pre ++ x :: post ∧ f (pre.foldl (stp f) s) x = some (.inl r) ∧ ∀ pr y ps, pre = pr ++ y :: ps → f (pr.foldl (stp f) s) y = some (.inr (stp f (pr.foldl (stp f) s) y)))
  | [], s, o, h => by
    cases h
    exact .inl ⟨s, rfl, rfl, fun pre x post e => by simp at e⟩
  | a :: l, s, o, h => by
    obtain ⟨q, h1, h2⟩ := bnd h
    cases q with
    | inl r =>
      cases h2
      exact .inr ⟨r, [], a, l, rfl, rfl, h1, fun pr y ps e => by simp at e⟩
    | inr s' =>
      have e1 : stp f s a = s' := by unfold stp; rw [h1]
      rcases foldR_ok h2 with ⟨t, rfl, k1, k2⟩ | ⟨r, pre, x, post, rfl, rfl, k1, k2⟩
      · refine .inl ⟨t, rfl, by rw [List.foldl_cons, e1]; exact k1, fun pre x post e => ?_⟩
        cases pre with
        | nil =>
          have := List.cons.inj e
          rw [← this.1]
          show f s a = some (.inr (stp f s a))
          rw [e1]; exact h1
        | cons b pre =>
          have := List.cons.inj e
          rw [← this.1, List.foldl_cons, e1]
          exact k2 pre x post this.2
      · refine .inr ⟨r, a :: pre, x, post, rfl, rfl, by rw [List.foldl_cons, e1]; exact k1, fun pr y ps e => ?_⟩
        cases pr with
        | nil =>
          have := List.cons.inj e
          rw [← this.1]
          show f s a = some (.inr (stp f s a))
          rw [e1]; exact h1
        | cons b pr =>
          have := List.cons.inj e
          rw [← this.1, List.foldl_cons, e1]
          exact k2 pr y ps this.2
def whileO (c : σ → Option Bool) (f : σ → Option σ) : Nat → σ → Option σ
  | 0, _ => none
  | n + 1, s => (c s).bind fun b => if b = true then (f s).bind (whileO c f n) else some s
theorem whileO_of {c : σ → Option Bool} {f : σ → Option σ} {cd : σ → Bool} {g : σ → σ} {I : σ → Prop} {μ : σ → Nat} (hc : ∀ s, I s → c s = some (cd s)) (hf : ∀ s, I s → cd s = true → f s = some (g s) ∧ I (g s) ∧ μ (g s) < μ s) :
    ∀ (n : Nat) {s : σ}, I s → μ s < n → whileO c f n s = some (whileN cd g n s) ∧ I (whileN cd g n s) ∧ cd (whileN cd g n s) = false
  | 0, s, _, h => by omega
  | n + 1, s, i, h => by
    show (c s).bind _ = _ ∧ _
    rw [hc s i, Option.bind_some]
    show _ ∧ I (if cd s = true then whileN cd g n (g s) else s) ∧ cd (if cd s = true then whileN cd g n (g s) else s) = false
    cases z : cd s with
    | true =>
      obtain ⟨a, b, d⟩ := hf s i z
      rw [if_t rfl, a, Option.bind_some, if_t rfl]
      have := whileO_of hc hf n b (by omega)
      refine ⟨?_, this.2⟩
      rw [this.1]
      show _ = some (if cd s = true then whileN cd g n (g s) else s)
      rw [if_pos z]
    | false =>
      rw [if_f rfl, if_f rfl]
      refine ⟨?_, i, z⟩
      show _ = some (if cd s = true then whileN cd g n (g s) else s)
      rw [if_neg (by rw [z]; exact Bool.false_ne_true)]
end
section
variable {K : Fg} {G G' G1 G2 : Ctx} {te ta tb tc : TE} {tt tu : TT} {tr : TA} {t u r : TS} {d e a b c : D} {ds es : List D} {o : Out}
abbrev LN : Nat := 10 * LM
theorem en_mapO {α β : Type} {wi : TI} {g : TG} {vs : List Nat} {as : List α} {enc : α → D} {f : α → Option β} {ys : List β} (eb : β → D) (hl : as.length ≤ LN) (hi : ItD K wi G (as.map enc)) (h : mapO f as = some ys)
    (hb : ∀ x, x ∈ as → ∀ y, f x = some y → ∃ Gt is, TgD K g (enc x) (wipeC G vs) Gt is ∧ (∀ i ∈ is, i ∈ vs) ∧ EvD K te Gt (eb y)) : EvN K (tLc wi g tYes te vs) G (ys.map eb) := by
  obtain ⟨h1, h2⟩ := mapO_ok (γ := D) h
  rw [← h2 eb .non]
  refine en_lcA (LMs hl) hi fun pre x post e => ?_
  obtain ⟨y, hy⟩ := h1 x (mem_mid e)
  obtain ⟨Gt, is, a, b, c⟩ := hb x (mem_mid e) y hy
  exact ⟨Gt, is, a, b, by rw [hy]; exact c⟩
theorem en_fltO {α β : Type} {wi : TI} {g : TG} {vs : List Nat} {as : List α} {enc : α → D} {cd : α → Option Bool} {f : α → Option β} {ys : List β} (eb : β → D) (hl : as.length ≤ LN) (hi : ItD K wi G (as.map enc)) (h : fltO cd f as = some ys)
    (hb : ∀ x, x ∈ as → ∃ Gt is, TgD K g (enc x) (wipeC G vs) Gt is ∧ (∀ i ∈ is, i ∈ vs) ∧ (∀ b, cd x = some b → EvB K tt Gt b) ∧ (∀ y, cd x = some true → f x = some y → EvD K te Gt (eb y))) : EvN K (tLc wi g tt te vs) G (ys.map eb) := by
  obtain ⟨h1, h2⟩ := fltO_ok (γ := D) h
  rw [← h2 eb .non]
  refine en_lc (LMs hl) hi fun pre x post e => ?_
  obtain ⟨b, hb1, hb2⟩ := h1 x (mem_mid e)
  obtain ⟨Gt, is, q1, q2, q3, q4⟩ := hb x (mem_mid e)
  refine ⟨Gt, is, q1, q2, by rw [hb1]; exact q3 b hb1, fun z => ?_⟩
  rw [hb1] at z
  have z' : b = true := z
  subst z'
  obtain ⟨y, hy⟩ := hb2 rfl
  rw [hy]
  exact q4 y hb1 hy
theorem st_last (h : StD K (tSeq t tNext) G o) : StD K t G o := h
theorem st_foldO {α S : Type} {wi : TI} {g : TG} {as : List α} {enc : α → D} (Gs : S → Ctx) {f : S → α → Option S} {s0 s : S} (hi : ItD K wi (Gs s0) (as.map enc)) (h : foldO f s0 as = some s)
    (hb : ∀ s x, x ∈ as → ∀ s', f s x = some s' → ∃ Gt is, TgD K g (enc x) (Gs s) Gt is ∧ StD K t Gt (.lp (Gs s'))) : StD K (tFor wi g t) (Gs s0) (.nx (Gs s)) := by
  rw [← foldO_fl h]
  refine st_for hi fun pre x post e => ?_
  rw [e] at h
  obtain ⟨s1, h1, h2⟩ := foldO_app h
  obtain ⟨s2, h3, h4⟩ := bnd (show (f s1 x).bind (fun s' => foldO f s' post) = some s from h2)
  rw [foldO_fl h1, h3]
  exact hb s1 x (mem_mid e) s2 h3
/-- how a turn ends, of a loop that may return -/
def outR {ρ S : Type} (er : ρ → D) (Gs : S → Ctx) : ρ ⊕ S → Out
  | .inl r => .rt (er r)
  | .inr s => .lp (Gs s)
def outN {ρ S : Type} (er : ρ → D) (Gs : S → Ctx) : ρ ⊕ S → Out
  | .inl r => .rt (er r)
  | .inr s => .nx (Gs s)
theorem st_foldR {α S ρ : Type} {wi : TI} {g : TG} {as : List α} {enc : α → D} (er : ρ → D) (Gs : S → Ctx) {f : S → α → Option (ρ ⊕ S)} {s0 : S} {o : ρ ⊕ S} (hi : ItD K wi (Gs s0) (as.map enc)) (h : foldR f s0 as = some o)
    (hb : ∀ s x, x ∈ as → ∀ o, f s x = some o → ∃ Gt is, TgD K g (enc x) (Gs s) Gt is ∧ StD K t Gt (outR er Gs o)) : StD K (tFor wi g t) (Gs s0) (outN er Gs o) := by
  rcases foldR_ok h with ⟨s', rfl, k1, k2⟩ | ⟨r, pre, x, post, rfl, e, k1, k2⟩
  · show StD K _ _ (.nx (Gs s'))
    rw [← k1]
    refine st_for hi fun pre x post e => ?_
    exact hb _ x (mem_mid e) _ (k2 pre x post e)
  · refine st_forR (Gs := Gs) (step := stp f) e hi (fun pr y ps e2 => ?_) ?_
    · exact hb _ y (by rw [e, e2]; simp) _ (k2 pr y ps e2)
    · exact hb _ x (mem_mid e) _ k1
theorem st_whileO {S : Type} (Gs : S → Ctx) {c : S → Option Bool} {f : S → Option S} {n : Nat} {s0 s : S} (h : whileO c f n s0 = some s) (hc : ∀ s b, c s = some b → EvB K tt (Gs s) b)
    (hb : ∀ s s', c s = some true → f s = some s' → StD K t (Gs s) (.lp (Gs s'))) : StD K (tWhile tt t) (Gs s0) (.nx (Gs s)) := by
  have key : ∀ (k : Nat) (x : S), whileO c f k x = some s → (whileN (fun q : S × Nat => (c q.1).getD false) (fun q => ((f q.1).getD q.1, q.2 - 1)) k (x, k)).1 = s := by
    intro k
    induction k with
    | zero => intro x h; cases h
    | succ k ih =>
      intro x h
      obtain ⟨b, h1, h2⟩ := bnd (show (c x).bind (fun b => if b = true then (f x).bind (whileO c f k) else some x) = some s from h)
      show (if (c x).getD false = true then whileN (fun q : S × Nat => (c q.1).getD false) (fun q => ((f q.1).getD q.1, q.2 - 1)) k ((f x).getD x, k + 1 - 1) else (x, k + 1)).1 = s
      rw [h1]
      cases b with
      | true =>
        rw [if_t rfl] at h2
        obtain ⟨y, h3, h4⟩ := bnd h2
        rw [h3, Option.getD_some, if_t rfl]
        exact ih y h4
      | false =>
        rw [if_f rfl] at h2
        rw [Option.getD_some, if_f rfl]
        exact Option.some.inj h2
  rw [← key n s0 h]
  have inv : ∀ q : S × Nat, whileO c f q.2 q.1 = some s → ∃ k b, q.2 = k + 1 ∧ c q.1 = some b ∧ (if b = true then (f q.1).bind (whileO c f k) else some q.1) = some s := fun q hq => by
    obtain ⟨x, k⟩ := q
    cases k with
    | zero => cases hq
    | succ k =>
      obtain ⟨b, h1, h2⟩ := bnd (show (c x).bind (fun b => if b = true then (f x).bind (whileO c f k) else some x) = some s from hq)
      exact ⟨k, b, rfl, h1, h2⟩
  refine st_while (S := S × Nat) (Gs := fun q => Gs q.1) (Iv := fun q => whileO c f q.2 q.1 = some s) (μ := fun q => q.2) n (s0 := (s0, n)) (Nat.le_refl _) h (fun q hq => ?_) fun q hq hz => ?_
  · obtain ⟨k, b, _, h1, _⟩ := inv q hq
    show EvB K tt (Gs q.1) ((c q.1).getD false)
    rw [h1]
    exact hc _ _ h1
  · obtain ⟨k, b, e, h1, h2⟩ := inv q hq
    have hz' : (c q.1).getD false = true := hz
    rw [h1] at hz'
    have : b = true := hz'
    subst this
    rw [if_t rfl] at h2
    obtain ⟨y, h3, h4⟩ := bnd h2
    show StD K t (Gs q.1) (.lp (Gs ((f q.1).getD q.1))) ∧ whileO c f (q.2 - 1) ((f q.1).getD q.1) = some s ∧ q.2 - 1 < q.2
    rw [h3]
    exact ⟨hb _ _ h1 h3, by rw [e]; exact h4, by omega⟩
/-! ### tests by parts -/
def andO (x : Option Bool) (y : Option Bool) : Option Bool := x.bind fun b => if b = true then y else some false
def orO (x : Option Bool) (y : Option Bool) : Option Bool := x.bind fun b => if b = true then some true else y
theorem eb_andO {x y : Option Bool} {b : Bool} (h : andO x y = some b) (k : ∀ z, x = some z → EvB K tt G z) (l : ∀ z, y = some z → EvB K tu G z) : EvB K (tAnd tt tu) G b := by
  obtain ⟨z, h1, h2⟩ := bnd h
  cases z with
  | true =>
    rw [if_t rfl] at h2
    have := eb_and (k true h1) (fun _ => l b h2)
    simpa using this
  | false =>
    rw [if_f rfl] at h2
    cases h2
    have := eb_and (tu := tu) (y := false) (k false h1) (fun z : false = true => nomatch z)
    simpa using this
theorem eb_orO {x y : Option Bool} {b : Bool} (h : orO x y = some b) (k : ∀ z, x = some z → EvB K tt G z) (l : ∀ z, y = some z → EvB K tu G z) : EvB K (tOr tt tu) G b := by
  obtain ⟨z, h1, h2⟩ := bnd h
  cases z with
  | true =>
    rw [if_t rfl] at h2
    cases h2
    have := eb_or (tu := tu) (y := true) (k true h1) (fun z : true = false => nomatch z)
    simpa using this
  | false =>
    rw [if_f rfl] at h2
    have := eb_or (k false h1) (fun _ => l b h2)
    simpa using this
theorem ev_andO {x y : Option Bool} {b : Bool} (h : andO x y = some b) (k : ∀ z, x = some z → EvD K ta G (.bl z)) (l : ∀ z, y = some z → EvD K tb G (.bl z)) : EvD K (tAndV ta tb) G (.bl b) := by
  obtain ⟨z, h1, h2⟩ := bnd h
  cases z with
  | true =>
    rw [if_t rfl] at h2
    have := ev_andV (k true h1) (fun _ => l b h2)
    simpa using this
  | false =>
    rw [if_f rfl] at h2
    cases h2
    have := ev_andV (tb := tb) (y := false) (k false h1) (fun z : false = true => nomatch z)
    simpa using this
theorem ev_orO {x y : Option Bool} {b : Bool} (h : orO x y = some b) (k : ∀ z, x = some z → EvD K ta G (.bl z)) (l : ∀ z, y = some z → EvD K tb G (.bl z)) : EvD K (tOrV ta tb) G (.bl b) := by
  obtain ⟨z, h1, h2⟩ := bnd h
  cases z with
  | true =>
    rw [if_t rfl] at h2
    cases h2
    have := ev_orV (tb := tb) (y := true) (k true h1) (fun z : true = false => nomatch z)
    simpa using this
  | false =>
    rw [if_f rfl] at h2
    have := ev_orV (k false h1) (fun _ => l b h2)
    simpa using this
def ifO {α : Type} (x : Option Bool) (y z : Option α) : Option α := x.bind fun b => if b = true then y else z
theorem ev_ifO {α : Type} {enc : α → D} {x : Option Bool} {y z : Option α} {r : α} (h : ifO x y z = some r) (k : ∀ b, x = some b → EvB K tt G b) (l : ∀ v, y = some v → EvD K ta G (enc v)) (m : ∀ v, z = some v → EvD K tb G (enc v)) : EvD K (tIf tt ta tb) G (enc r) := by
  obtain ⟨w, h1, h2⟩ := bnd h
  cases w with
  | true =>
    rw [if_t rfl] at h2
    exact ev_if (k true h1) (fun _ => l r h2) (fun z : true = false => nomatch z)
  | false =>
    rw [if_f rfl] at h2
    exact ev_if (k false h1) (fun z : false = true => nomatch z) (fun _ => m r h2)
theorem en_ifO {α : Type} {enc : α → D} {x : Option Bool} {y z : Option (List α)} {r : List α} (h : ifO x y z = some r) (k : ∀ b, x = some b → EvB K tt G b) (l : ∀ v, y = some v → EvN K ta G (v.map enc)) (m : ∀ v, z = some v → EvN K tb G (v.map enc)) : EvN K (tIf tt ta tb) G (r.map enc) := by
  obtain ⟨w, h1, h2⟩ := bnd h
  cases w with
  | true =>
    rw [if_t rfl] at h2
    exact en_if (k true h1) (fun _ => l r h2) (fun z : true = false => nomatch z)
  | false =>
    rw [if_f rfl] at h2
    exact en_if (k false h1) (fun z : false = true => nomatch z) (fun _ => m r h2)
/-! ### lists -/
theorem atI_map {α β : Type} (f : α → β) (l : List α) (j : Int) : atI (l.map f) j = (atI l j).map f := by
  unfold atI
  rw [List.length_map]
  cases ixN l.length j with
  | none => rfl
  | some k =>
    show (l.map f)[k]? = (l[k]?).map f
    rw [List.getElem?_map]
theorem ev_at {α : Type} {enc : α → D} {l : List α} {j : Int} {x : α} (h : atI l j = some x) (ha : EvD K ta G (lsD enc l)) (hb : EvD K tb G (.int j)) : EvD K (tOp (rIxL K) ta tb) G (enc x) := ev_ixL (by rw [atI_map, h]; rfl) ha hb
theorem ev_atO {α : Type} {enc : α → D} {l : List α} {i : Nat} {j : Int} {x : α} (hi : G[i]? = some (.own (l.map enc))) (h : atI l j = some x) (hb : EvD K tb G (.int j)) : EvD K (tOp (rIxL K) (tVar i) tb) G (enc x) := ev_ixO hi (by rw [atI_map, h]; rfl) hb
theorem ev_atV {α : Type} {enc : α → D} {l : List α} {j : Int} {x : α} (h : atI l j = some x) (ha : EvD K ta G (.tup (l.map enc))) (hb : EvD K tb G (.int j)) : EvD K (tOp (rIxT K) ta tb) G (enc x) := ev_ixT (by rw [atI_map, h]; rfl) ha hb
def cutA {α : Type} (xs : List α) (lo hi : Option Int) : List α := (xs.drop (HT.sIx xs.length 0 lo)).take (HT.sIx xs.length xs.length hi - HT.sIx xs.length 0 lo)
theorem cut_map {α : Type} (enc : α → D) (xs : List α) (lo hi : Option Int) : cutD (xs.map enc) lo hi = (cutA xs lo hi).map enc := by
  unfold cutD cutA
  rw [List.length_map, List.map_take, List.map_drop]
theorem en_cutA {α : Type} {enc : α → D} {tl th : TO} {xs : List α} {lo hi : Option Int} (h : EvD K te G (lsD enc xs)) (h1 : EvO K tl G lo) (h2 : EvO K th G hi) : EvN K (tSl (rSlL K) te tl th) G ((cutA xs lo hi).map enc) := by
  rw [← cut_map]
  exact en_slice h h1 h2
theorem en_revA {α : Type} {enc : α → D} {xs : List α} (h : EvD K ta G (lsD enc xs)) : EvN K (tRevL K ta) G (xs.reverse.map enc) := by
  rw [List.map_reverse]
  exact en_rev h
theorem en_catO {α : Type} {enc : α → D} {as bs : List α} (hl : as.length + bs.length ≤ LN) (ha : EvD K ta G (lsD enc as)) (hb : EvD K tb G (lsD enc bs)) : EvN K (tOp rCat ta tb) G ((as ++ bs).map enc) := en_catT hl ha hb
theorem st_appO {α : Type} {enc : α → D} {i : Nat} {l : List α} {x : α} (hi : G[i]? = some (.own (l.map enc))) (hl : l.length ≤ LM) (h : EvD K te G (enc x)) : StD K (tDrop (tBM K "list" rAppend (tVar i) (tCons te tNil))) G (.nx (G.set i (.own ((l ++ [x]).map enc)))) := st_appT hi hl h
theorem st_setA {α : Type} {enc : α → D} {i k : Nat} {l : List α} {x : α} {j : Int} {tj : TE} (hi : G[i]? = some (.own (l.map enc))) (hk : ixN l.length j = some k) (h : EvD K te G (enc x)) (hj : EvD K tj G (.int j)) : StD K (tAsg te (gSub (tVar i) tj rSetL)) G (.nx (G.set i (.own ((l.set k x).map enc)))) := by
  rw [List.map_set]
  exact st_setI hi (by rw [List.length_map]; exact hk) h hj
/-- a list of one's own is looked at -/
theorem SOk.seen {F0 H0 F H : Hp} {σ : L2.St} (s : SOk K F0 H0 F H σ G) {i : Nat} {xs : List D} (hi : G[i]? = some (.own xs)) : ∃ a vs, F a = none ∧ H a = some (.lst vs) ∧ SOk K F0 H0 (upd F a (.lst vs)) H σ (G.set i (.val (.lst xs))) ∧ Same F (upd F a (.lst vs)) := by
  obtain ⟨a, us, g1, g2, g3, g4, g5⟩ := s.own hi
  refine ⟨a, us, g3, g2, ?_, same_new g3⟩
  refine ⟨s.st.pub g4 g3 g2, by rw [List.length_set, s.len], fun j c q => ?_, fun j k ds' es' b e1 e2 h1 h2 => ?_⟩
  · rcases get_set q with ⟨rfl, rfl, hl⟩ | ⟨ne, q'⟩
    · exact ⟨some (.ref a), g1, .ref a, rfl, a, us, rfl, upd_same, Reps.mono (same_new g3) _ _ g5⟩
    · obtain ⟨o, h1, h2⟩ := s.sl j c q'
      refine ⟨o, h1, ?_⟩
      cases c with
      | un => trivial
      | val d =>
        obtain ⟨v, k1, k2⟩ := h2
        exact ⟨v, k1, Rep.mono (same_new g3) _ _ k2⟩
      | prv kk ds' =>
        obtain ⟨b, ws, rfl, k1, k2, k3, k4⟩ := h2
        refine ⟨b, ws, rfl, k1, ?_, k3, Reps.mono (same_new g3) _ _ k4⟩
        rw [upd_ne (fun z => ?_)]
        · exact k2
        · subst z
          exact ne (s.ap i j _ _ _ hi q' g1 h1)
  · have f : ∀ (l : PvK) (m : Nat) (xs' : List D), (G.set i (.val (.lst xs)))[m]? = some (.prv l xs') → G[m]? = some (.prv l xs') := fun l m xs' q => by
      rcases get_set q with ⟨_, z, _⟩ | ⟨_, q'⟩
      · cases z
      · exact q'
    exact s.ap j k _ _ b (f _ _ _ e1) (f _ _ _ e2) h1 h2
theorem Step.unsee {F H F' H' : Hp} {a : Addr} {o : HO} (hf : F a = none) (hh : H a = some o) (t : Step (upd F a o) H F' H') : Step F H (del F' a) H' where
  ff := fun b u e => by
    have q := ne_of_none e hf
    rw [del_ne q]
    exact t.ff b u (by rw [upd_ne q]; exact e)
  hh := t.hh
  fh := fun b u e => t.fh b u (del_same _ _ e)
  nw := fun b m => by
    by_cases q : b = a
    · subst q; rw [del_x] at m; exact absurd rfl m
    · rw [del_ne q] at m
      rcases t.nw b m with z | z
      · rw [upd_ne q] at z; exact .inl z
      · exact .inr z
theorem eb_see {i : Nat} {xs : List D} {b : Bool} (hi : G[i]? = some (.own xs)) (h : EvB K tt (G.set i (.val (.lst xs))) b) : EvB K tt G b := fun F0 H0 F H σ s Q q => by
  obtain ⟨a, vs, h1, h2, s', _⟩ := s.seen hi
  exact h F0 H0 _ H σ s' Q fun F' H' t => q _ H' (t.unsee h1 h2)
theorem ev_see {i : Nat} {xs : List D} (sc : Scal d) (hi : G[i]? = some (.own xs)) (h : EvD K te (G.set i (.val (.lst xs))) d) : EvD K te G d := fun F0 H0 F H σ s Q q => by
  obtain ⟨a, vs, h1, h2, s', _⟩ := s.seen hi
  exact h F0 H0 _ H σ s' Q fun v F' H' t r => q v _ H' (t.unsee h1 h2) (sc K _ _ v r)
/-! ### None or something -/
def opD {α : Type} (enc : α → D) : Option α → D
  | none => .non
  | some a => enc a
theorem isNon_op {α : Type} {enc : α → D} (h : ∀ a, isNon (enc a) = false) (o : Option α) : isNon (opD enc o) = o.isNone := by
  cases o with
  | none => rfl
  | some a => exact h a
theorem like_op {α : Type} [DecidableEq α] {enc : α → D} {k : Nat} (h : Like enc k) (hn : ∀ a, PyData.eqv .none (py (enc a)) = false ∧ PyData.eqv (py (enc a)) .none = false) : Like (opD enc) k := by
  refine ⟨fun o => ?_, fun x y => ?_⟩
  · cases o with
    | none => cases k <;> rfl
    | some a => exact h.ok a
  · cases x with
    | none =>
      cases y with
      | none => rfl
      | some b => simp only [opD, py]; rw [(hn b).1]; simp
    | some a =>
      cases y with
      | none => simp only [opD, py]; rw [(hn a).2]; simp
      | some b => simp only [opD]; rw [h.eq]; simp
end
end Cw
set_option maxHeartbeats 4000000
namespace Cw
open PySem PySem.Spec PyProof.Rows L2
/-! ### dicts whose keys are tuples of ints: dict(list of pairs), sorted(dict) -/
abbrev Qd : Type := Addr × Addr × List Key × V
def mergeT (kvs more : List (List Key × V)) : List (List Key × V) := more.foldl (fun acc kv => putK acc kv.1 kv.2) kvs
def rDictT (K : Fg) : List V → Hp → VK → Prop := fun xs H Q => ∃ (a : Addr) (l : List Qd), xs = [.ref a] ∧ SqL K H a (l.map fun q => V.ref q.1) ∧ l.length ≤ sizeLine ∧ (∀ q ∈ l, SqT K H q.1 [.ref q.2.1, q.2.2.2] ∧ H q.2.1 = some (.tup (q.2.2.1.map kV))) ∧
  ∀ p, H p = none → Q (.ref p) (upd H p (.dT (mergeT [] (l.map fun q => q.2.2))))
theorem mergeT_len : ∀ (more kvs : List (List Key × V)), (mergeT kvs more).length ≤ kvs.length + more.length
  | [], kvs => Nat.le_refl _
  | p :: r, kvs => by
    have h1 := mergeT_len r (putK kvs p.1 p.2)
    have h2 := length_putK kvs p.1 p.2
    show (mergeT (putK kvs p.1 p.2) r).length ≤ _
    rw [List.length_cons]
    omega
theorem KT_merge {H : Hp} {more : List (List Key × V)} {rs : List (List Key × Addr × Value)} (h : KT H more rs) : ∀ {kvs : List (List Key × V)} {xs : List (List Key × Addr × Value)}, KT H kvs xs → KT H (mergeT kvs more) (PySem.storedAllH xs rs) := by
  unfold KT at h
  induction h with
  | nil => intro kvs xs k; exact k
  | @cons p q ps qs hq t ih =>
    intro kvs xs k
    have z := KT.put k p.1 hq.2.1 hq.2.2
    have := ih z
    show KT H (mergeT (putK kvs p.1 p.2) ps) (PySem.storedAllH (storedH xs q.1 q.2.1 q.2.2) qs)
    rw [← hq.1]
    exact this
theorem cr_dictT {X : Cx} {K : Fg} (hc : X.calm = true) (hu : X.A.units + 3 < cLine) (hK : X.K = K := by rfl) : CallR X (.type "dict") (rDictT K) := by
  cases hK
  intro pins s σ H xs us Q I r h
  obtain ⟨a, l, rfl, hs, hz, hl, q⟩ := h
  rw [Vals.ref1 r]
  obtain ⟨its, rv, pl, _⟩ := I.list hs
  -- what the pairs are in the heap
  have pr : ∀ (l : List Qd), (∀ q ∈ l, SqT X.K H q.1 [.ref q.2.1, q.2.2.2] ∧ H q.2.1 = some (.tup (q.2.2.1.map kV))) → ∃ ps : List (List Key × Addr × Value), KT H (l.map fun q => q.2.2) ps ∧ ps.length = l.length ∧
      ∀ (j : Nat) (x : List Key × Addr × Value), ps[j]? = some x → ∃ q : Qd, l[j]? = some q ∧ x.2.1 = q.2.1 ∧ x.1 = q.2.2.1 ∧ IsTup s.heap q.1 #[.ref x.2.1, x.2.2] := by
    intro l
    induction l with
    | nil => intro _; exact ⟨[], .nil, rfl, fun j x e => by simp at e⟩
    | cons y l ih =>
      intro h
      obtain ⟨ps, k1, k2, k3⟩ := ih fun q hq => h q (List.mem_cons_of_mem _ hq)
      obtain ⟨h1, h2⟩ := h y List.mem_cons_self
      obtain ⟨it2, rv2, ht, _⟩ := I.tuple h1
      obtain ⟨u1, u2, ei, r1, r2⟩ := vals2 rv2
      subst ei
      cases (show u1 = Value.ref y.2.1 from r1)
      refine ⟨(y.2.2.1, y.2.1, u2) :: ps, .cons ⟨rfl, h2, r2⟩ k1, by rw [List.length_cons, List.length_cons, k2], fun j x e => ?_⟩
      cases j with
      | zero =>
        have e' : (y.2.2.1, y.2.1, u2) = x := Option.some.inj e
        subst e'
        exact ⟨y, rfl, rfl, rfl, ht⟩
      | succ j =>
        obtain ⟨q, e1, e2, e3, e4⟩ := k3 j x (by simpa using e)
        exact ⟨q, by simpa using e1, e2, e3, e4⟩
  obtain ⟨ps, kt, kl, kp⟩ := pr l hl
  have hsz : its.length = l.length := by
    have := rv.length
    rw [List.length_map] at this
    exact this.symm
  have hit : ∀ (j : Nat) (q : Qd), l[j]? = some q → its[j]? = some (.ref q.1) := fun j q e => by
    obtain ⟨u, hu1, hu2⟩ := rv.get (i := j) (x := V.ref q.1) (by rw [List.getElem?_map, e]; rfl)
    cases (show u = Value.ref q.1 from hu2)
    exact hu1
  let vs : List (Value × Value) := ps.map fun x => (Value.ref x.2.1, x.2.2)
  let Ts : Nat → Addr := fun j => (l[j]?.map (·.1)).getD 0
  have kill : ∀ x ∈ ps, (tupleKind (mixKind X.prog X.w)).is s.heap x.1 x.2.1 := by
    have : ∀ {A : List (List Key × V)} {B : List (List Key × Addr × Value)}, KT H A B → ∀ x ∈ B, (tupleKind (mixKind X.prog X.w)).is s.heap x.1 x.2.1 := by
      intro A B z
      induction z with
      | nil => intro x hx; exact nomatch hx
      | @cons p q A B hq t ih =>
        intro x hx
        rcases List.mem_cons.mp hx with e | hx
        · subst e
          exact key_of I.hok (by rw [← hq.1]; exact hq.2.1)
        · exact ih x hx
    exact this kt
  refine PySem.call_dict_pairsH (knd := tupleKind (mixKind X.prog X.w)) (ps := ps) (PySem.PairArg.list a its.toArray Ts vs) (I.ok.hd hc) (tupleKind_room_in1 (by show X.A.in1.units + 1 < cLine; have : X.A.in1.units = X.A.units + 1 := rfl; omega)) ⟨?_, by simp [vs, hsz, kl], fun j k v e => ?_⟩ ⟨by simp [vs], fun i key v e => ?_⟩ ?_ (by simp [vs, kl]; exact hz) fun h' tk hd' hk => ?_
  · exact pl
  · have e' : (ps[j]?).map (fun x => (Value.ref x.2.1, x.2.2)) = some (k, v) := by rw [← List.getElem?_map]; exact e
    cases ex : ps[j]? with
    | none => rw [ex] at e'; cases e'
    | some x =>
      rw [ex] at e'
      cases e'
      obtain ⟨y, e1, e2, e3, e4⟩ := kp j x ex
      have et : Ts j = y.1 := by show (l[j]?.map (·.1)).getD 0 = _; rw [e1]; rfl
      rw [et]
      exact ⟨by rw [List.getElem?_toArray]; exact hit j y e1, .inl (by obtain ⟨o, h1, h2, n, h3⟩ := e4; exact ⟨o, h1, h2, n, h3⟩)⟩
  · have e' : (ps[i]?).map (fun x => (Value.ref x.2.1, x.2.2)) = some (key, v) := by rw [← List.getElem?_map]; exact e
    cases ex : ps[i]? with
    | none => rw [ex] at e'; cases e'
    | some x =>
      rw [ex] at e'
      cases e'
      exact ⟨x.1, x.2.1, rfl, rfl⟩
  · intro h' hk x hx
    obtain ⟨o, items, n, k1, k2, k3, k4⟩ := kill x hx
    exact ⟨o, items, n, hk _ _ (Nat.ne_of_lt (Heap.lt_size k1)) (by simp) k1, k2, k3, k4⟩
  · have hm : (s.heap.objs.size == sysModules) = false := beq_eq_false_iff_ne.mpr (Nat.ne_of_gt I.big)
    have hln : (mergeT [] (l.map fun q => q.2.2)).length ≤ sizeLine := by
      have := mergeT_len (l.map fun q => q.2.2) []
      rw [List.length_map] at this
      simp at this
      omega
    have hfr := I.hok.fresh (Nat.le_refl s.heap.objs.size)
    have ktm := KT_merge kt (kvs := []) (xs := []) .nil
    obtain ⟨o, es, ep, g1, g2, g3, g4, _, g5⟩ := hd'
    refine ⟨.ref s.heap.objs.size, upd H s.heap.objs.size (.dT (mergeT [] (l.map fun q => q.2.2))), I.laid (t' := tk) (fun b o e => hk b o (by simp) e) (Nat.le_refl _) (show ObjOk X.prog X.w _ _ _ (.dT (mergeT [] (l.map fun q => q.2.2))) from ⟨hln, hm, _, KT.keeps ktm fun b ys e => ?_, o, es, ep, g1, g2, g3, g4, g5⟩), rfl, q _ hfr⟩
    exact same_new hfr _ _ e
theorem room_u3 {k : Nat} {A : Around} (r : Room k A) : A.units + 3 < cLine := by have := r.units; omega
/-! sorted(d) -/
def rSortDT : List V → Hp → VK → Prop := fun xs H Q => ∃ (a : Addr) (kvs : List (List Key × V)) (ks : List (List Int)), xs = [.ref a] ∧ H a = some (.dT kvs) ∧ kvs.map (·.1) = ks.map (fun k => k.map Sum.inl) ∧ (∀ k ∈ ks, k ≠ []) ∧
  ∀ p (bs : List Addr), H p = none → bs.length = ks.length → (∀ (i : Nat) (k : List Int), (ks.mergeSort (PySem.W.dataLe false fun k => py (.key k)))[i]? = some k → ∃ b, bs[i]? = some b ∧ H b = some (.tup (k.map V.int))) → Q (.ref p) (upd H p (.lst (bs.map V.ref)))
theorem readsAll_ints {h : Heap} : ∀ {k : List Int} {us : List Value}, Vals (k.map V.int) us → ReadsAll h us (k.map PyData.int) []
  | [], _, r => by
    rw [List.map_nil] at r
    cases r
    exact .nil
  | i :: k, _, r => by
    rw [List.map_cons] at r
    cases r with
    | cons h1 h2 =>
      obtain ⟨t, e⟩ := (show ∃ t, _ = Value.int i t from h1)
      subst e
      exact ReadsAll.cons (as := []) (.int i t) (readsAll_ints h2)
theorem each_of {β : Type} {R : Value → β → Prop} : ∀ {us : List Value} {bs : List β}, us.length = bs.length → (∀ (j : Nat) (u : Value) (b : β), us[j]? = some u → bs[j]? = some b → R u b) → PySem.W.EachIs R us bs
  | [], [], _, _ => .nil
  | [], _ :: _, h, _ => by simp at h
  | _ :: _, [], h, _ => by simp at h
  | u :: us, b :: bs, h, f => .cons (f 0 u b rfl rfl) (each_of (by simpa using h) fun j v c h1 h2 => f (j + 1) v c (by simpa using h1) (by simpa using h2))
theorem each_at {β : Type} {R : Value → β → Prop} : ∀ {us : List Value} {bs : List β}, PySem.W.EachIs R us bs → ∀ (j : Nat) (b : β), bs[j]? = some b → ∃ u, us[j]? = some u ∧ R u b
  | _, _, .nil, j, b, e => by simp at e
  | _, _, .cons h t, 0, b, e => by
    have e' := Option.some.inj e
    subst e'
    exact ⟨_, rfl, h⟩
  | _, _, .cons h t, j + 1, b, e => by
    obtain ⟨u, h1, h2⟩ := each_at t j b (by simpa using e)
    exact ⟨u, by simpa using h1, h2⟩
theorem each_len {β : Type} {R : Value → β → Prop} : ∀ {us : List Value} {bs : List β}, PySem.W.EachIs R us bs → us.length = bs.length
  | _, _, .nil => rfl
  | _, _, .cons h t => by rw [List.length_cons, List.length_cons, each_len t]
theorem alike_keys {ks : List (List Int)} : PySem.W.AllAlike (ks.map fun k => py (.key k)) := by
  have key : ∀ a b : List Int, PySem.W.alikeAll (a.map PyData.int) (b.map PyData.int) = true := by
    intro a
    induction a with
    | nil => intro b; cases b <;> rfl
    | cons x a ih =>
      intro b
      cases b with
      | nil => rfl
      | cons y b =>
        have := ih b
        simp only [List.map_cons, PySem.W.alikeAll, PySem.W.alike, this, Bool.and_self]
  intro d hd d' hd'
  obtain ⟨a, _, rfl⟩ := List.mem_map.mp hd
  obtain ⟨b, _, rfl⟩ := List.mem_map.mp hd'
  show PySem.W.alike (.tuple _) (.tuple _) = true
  simp only [PySem.W.alike, key]
theorem cr_sortedDT {X : Cx} (hc : X.calm = true) (hu : X.A.units + 64 < cLine) : CallR X (.builtin "sorted") rSortDT := by
  intro pins s σ H xs us Q I r h
  obtain ⟨a, kvs, ks, rfl, hd, hk, hne, q⟩ := h
  rw [Vals.ref1 r]
  obtain ⟨z, lo, xs, pr, o, es, ep, ho, hx, hdt, he, hn⟩ := (show ObjOk X.prog X.w H s.heap a (.dT kvs) from I.hok _ _ hd)
  have l1 : es.size = xs.length := size_of_entries he
  have l2 : kvs.length = xs.length := Paired.length pr
  have l3 : kvs.length = ks.length := by
    have := congrArg List.length hk
    rw [List.length_map, List.length_map] at this
    exact this
  refine Calls.call_function_entry PyProof.Rows.kind_sorted PyProof.Rows.plain_sorted PyProof.Rows.entry_sorted (PyProof.Rows.args_sorted1 _) ?_
  unfold Builtin.«sorted»
  refine wpAny_bind (m := checkCount "sorted" 1 1 _) (wpAny_pure ?_)
  refine wpAny_bind (PySem.W.kdu_collect (A := X.A.in1) (kdl_raw lo hx hdt) (I.ok.hd hc) ho (by omega) fun h' tk acc hkp hacc => ?_)
  have I1 : Inv X pins σ H { s with heap := h', toks := tk } := I.kept hkp
  have hal : acc.toList.length = ks.length := by rw [Array.length_toList, hacc.1]; omega
  -- the items
  have item : ∀ (j : Nat) (u : Value) (k : List Int), acc.toList[j]? = some u → ks[j]? = some k → ∃ b, u = .ref b ∧ H b = some (.tup (k.map V.int)) := fun j u k h1 h2 => by
    obtain ⟨en, hen, hv⟩ := hacc.2 j u (by rw [← Array.getElem?_toList]; exact h1)
    have qe := entry_at he j
    rw [hen] at qe
    cases hb : xs[j]? with
    | none => rw [hb] at qe; exact nomatch (show some en = none from qe)
    | some x =>
      rw [hb] at qe
      have e2 : en = entryOfKey (tupleKind (mixKind X.prog X.w)) x := Option.some.inj qe
      subst e2
      have hj : j < xs.length := (List.getElem?_eq_some_iff.mp hb).1
      obtain ⟨y, hy⟩ : ∃ y, kvs[j]? = some y := ⟨kvs[j], List.getElem?_eq_getElem (by omega)⟩
      obtain ⟨x', hx', hp⟩ := L2.paired_get pr hy
      rw [hb] at hx'
      cases hx'
      refine ⟨x.2.1, hv, ?_⟩
      have e3 : (kvs.map (·.1))[j]? = some y.1 := by rw [List.getElem?_map, hy]; rfl
      rw [hk, List.getElem?_map, h2] at e3
      have e4 : k.map Sum.inl = y.1 := Option.some.inj e3
      rw [hp.2.1, ← e4, List.map_map]
      rfl
  refine wpAny_bind (wpAny_newList ?_ (by rw [hal]; omega))
  have hoL : (h'.push (seqObj "list" acc.toList.toArray 0)).get? h'.objs.size = some (seqObj "list" acc.toList.toArray 0) := Heap.get?_push_size _ rfl
  show wpAny _ _ _ _ _ { s with heap := h'.push (seqObj "list" acc.toList.toArray 0), toks := tk }
  have hkp2 : ∀ b o, s.heap.get? b = some o → (h'.push (seqObj "list" acc.toList.toArray 0)).get? b = some o := fun b o e => Heap.get?_push_of_some _ (hkp b o e)
  have e1 : PySem.W.EachIs (fun (u : Value) (k : List Int) => ∃ b, u = .ref b ∧ H b = some (.tup (k.map V.int))) acc.toList ks := each_of hal item
  have e2 : PySem.W.EachIs (fun (u : Value) (k : List Int) => ∃ as, Reads (h'.push (seqObj "list" acc.toList.toArray 0)) u (py (.key k)) as ∧ h'.objs.size ∉ as) acc.toList ks := each_of hal fun j u k h1 h2 => by
    obtain ⟨b, rfl, hb⟩ := item j u k h1 h2
    obtain ⟨it, rv, ⟨o2, g1, g2, n2, g3⟩, _⟩ := I.tuple (.inl (.inl hb))
    exact ⟨[], .tuple (hkp2 _ _ g1) g2 g3 (by simpa using readsAll_ints rv), by simp⟩
  refine wpAny_bind (wpAny_holding (PySem.W.list_sort_data (s := { s with heap := h'.push (seqObj "list" acc.toList.toArray 0), toks := tk }) (enc := fun k : List Int => py (.key k)) hoL e1 e2 alike_keys (.inl fun d hd => ?_) (by rw [← hal, hal]; omega) (fun k hk2 => ?_) fun out ho2 eo => ?_))
  · obtain ⟨k, hk2, rfl⟩ := List.mem_map.mp hd
    cases k with
    | nil => exact absurd rfl (hne _ hk2)
    | cons i k => exact ⟨_, _, rfl⟩
  · have : (py (.key k)).depth = 1 := by
      have := (lay_ints k).2
      simp [py, PyData.depth, this]
    rw [this]
    have : X.A.in1.units = X.A.units + 1 := rfl
    omega
  · obtain ⟨e', he'⟩ := PyProof.Rows.sortedHeap_at (vs := acc.toList) (out := out.toArray) hoL
    have hrefs : ∃ bs : List Addr, out = bs.map Value.ref ∧ bs.length = ks.length ∧ ∀ (i : Nat) (k : List Int), (ks.mergeSort (PySem.W.dataLe false fun k => py (.key k)))[i]? = some k → ∃ b, bs[i]? = some b ∧ H b = some (.tup (k.map V.int)) := by
      have gen : ∀ {us : List Value} {bs : List (List Int)}, PySem.W.EachIs (fun (u : Value) (k : List Int) => ∃ b, u = .ref b ∧ H b = some (.tup (k.map V.int))) us bs → ∃ as : List Addr, us = as.map Value.ref ∧ as.length = bs.length ∧ ∀ (i : Nat) (k : List Int), bs[i]? = some k → ∃ b, as[i]? = some b ∧ H b = some (.tup (k.map V.int)) := by
        intro us bs z
        induction z with
        | nil => exact ⟨[], rfl, rfl, fun i k e => by simp at e⟩
        | cons h t ih =>
          obtain ⟨b, rfl, hb⟩ := h
          obtain ⟨as, rfl, k2, k3⟩ := ih
          refine ⟨b :: as, rfl, by simp [k2], fun i k e => ?_⟩
          cases i with
          | zero =>
            have := Option.some.inj e
            subst this
            exact ⟨b, rfl, hb⟩
          | succ i =>
            obtain ⟨c, c1, c2⟩ := k3 i k (by simpa using e)
            exact ⟨c, by simpa using c1, c2⟩
      obtain ⟨as, a1, a2, a3⟩ := gen eo
      exact ⟨as, a1, by rw [a2, List.length_mergeSort], a3⟩
    obtain ⟨bs, rfl, hb1, hb2⟩ := hrefs
    have hlen : (bs.map V.ref).length ≤ sizeLine := by rw [List.length_map, hb1, ← l3]; exact z
    refine wpAny_pure ⟨_, rfl, .ref h'.objs.size, upd H h'.objs.size (.lst (bs.map V.ref)), I1.laid (t' := tk) (fun b u e => ?_) (Nat.le_refl _)
      (show ObjOk X.prog X.w _ _ _ (.lst (bs.map V.ref)) from ⟨hlen, bs.map Value.ref, e', vals_refs bs, he'⟩), rfl, q _ bs (I1.hok.fresh (Nat.le_refl _)) hb1 hb2⟩
    have hb : b < h'.objs.size := Heap.lt_size e
    rw [PyProof.Rows.sortedHeap_old (Nat.ne_of_lt hb) (by rw [size_push']; exact Nat.lt_succ_of_lt hb)]
    exact Heap.get?_push_of_some _ e
section
variable {β γ : Type}
def putI (kvs : List (List Int × β)) (k : List Int) (v : β) : List (List Int × β) :=
  if (kvs.any fun q => decide (q.1 = k)) = true then kvs.map (fun q => if q.1 = k then (q.1, v) else q) else kvs ++ [(k, v)]
def mrgI (kvs more : List (List Int × β)) : List (List Int × β) := more.foldl (fun acc kv => putI acc kv.1 kv.2) kvs
theorem inl_inj : ∀ {a b : List Int}, (a.map Sum.inl : List Key) = b.map Sum.inl → a = b
  | [], [], _ => rfl
  | [], _ :: _, h => by simp at h
  | _ :: _, [], h => by simp at h
  | x :: a, y :: b, h => by
    rw [List.map_cons, List.map_cons] at h
    have h1 := List.cons.inj h
    have h2 : x = y := by injection h1.1
    rw [h2, inl_inj h1.2]
theorem putI_map (f : β → γ) (kvs : List (List Int × β)) (k : List Int) (v : β) : (putI kvs k v).map (fun q => (q.1, f q.2)) = putI (kvs.map fun q => (q.1, f q.2)) k (f v) := by
  unfold putI
  rw [List.any_map]
  show _ = if (kvs.any fun q => decide (q.1 = k)) = true then _ else _
  by_cases h : (kvs.any fun q => decide (q.1 = k)) = true
  · rw [if_pos h, if_pos h, List.map_map, List.map_map]
    apply List.map_congr_left
    intro q _
    show ((if q.1 = k then (q.1, v) else q).1, f (if q.1 = k then (q.1, v) else q).2) = if q.1 = k then (q.1, f v) else (q.1, f q.2)
    by_cases z : q.1 = k
    · rw [if_pos z, if_pos z]
    · rw [if_neg z, if_neg z]
  · rw [if_neg h, if_neg h, List.map_append]; rfl
theorem putI_key (kvs : List (List Int × V)) (k : List Int) (v : V) : (putI kvs k v).map (fun q => ((q.1.map Sum.inl : List Key), q.2)) = putK (kvs.map fun q => ((q.1.map Sum.inl : List Key), q.2)) (k.map Sum.inl) v := by
  unfold putI putK
  rw [List.any_map]
  have e : (kvs.any fun q => decide (q.1 = k)) = (kvs.any ((fun kv : List Key × V => decide (kv.1 = k.map Sum.inl)) ∘ fun q => ((q.1.map Sum.inl : List Key), q.2))) := by
    congr 1
    funext q
    show decide (q.1 = k) = decide ((q.1.map Sum.inl : List Key) = k.map Sum.inl)
    exact decide_eq_decide.mpr ⟨fun h => by rw [h], fun h => inl_inj h⟩
  rw [← e]
  by_cases h : (kvs.any fun q => decide (q.1 = k)) = true
  · rw [if_pos h, if_pos h, List.map_map, List.map_map]
    apply List.map_congr_left
    intro q _
    show (((if q.1 = k then (q.1, v) else q).1.map Sum.inl : List Key), (if q.1 = k then (q.1, v) else q).2) = if (q.1.map Sum.inl : List Key) = k.map Sum.inl then ((q.1.map Sum.inl : List Key), v) else ((q.1.map Sum.inl : List Key), q.2)
    by_cases z : q.1 = k
    · rw [if_pos z, if_pos (by rw [z])]
    · rw [if_neg z, if_neg (fun y => z (inl_inj y))]
  · rw [if_neg h, if_neg h, List.map_append]; rfl
theorem mrgI_map (f : β → γ) : ∀ (more kvs : List (List Int × β)), (mrgI kvs more).map (fun q => (q.1, f q.2)) = mrgI (kvs.map fun q => (q.1, f q.2)) (more.map fun q => (q.1, f q.2))
  | [], kvs => rfl
  | p :: r, kvs => by
    show (mrgI (putI kvs p.1 p.2) r).map _ = mrgI (putI (kvs.map fun q => (q.1, f q.2)) p.1 (f p.2)) (r.map fun q => (q.1, f q.2))
    rw [mrgI_map f r, putI_map]
theorem mrgI_key : ∀ (more kvs : List (List Int × V)), (mrgI kvs more).map (fun q => ((q.1.map Sum.inl : List Key), q.2)) = mergeT (kvs.map fun q => ((q.1.map Sum.inl : List Key), q.2)) (more.map fun q => ((q.1.map Sum.inl : List Key), q.2))
  | [], kvs => rfl
  | p :: r, kvs => by
    show (mrgI (putI kvs p.1 p.2) r).map _ = mergeT (putK (kvs.map fun q => ((q.1.map Sum.inl : List Key), q.2)) (p.1.map Sum.inl) p.2) (r.map fun q => ((q.1.map Sum.inl : List Key), q.2))
    rw [mrgI_key r, putI_key]
theorem putI_mem {kvs : List (List Int × β)} {k : List Int} {v : β} {P : List Int × β → Prop} (h : ∀ q ∈ kvs, P q) (hk : P (k, v)) : ∀ q ∈ putI kvs k v, P q := by
  intro q hq
  unfold putI at hq
  split at hq
  · obtain ⟨x, hx, e⟩ := List.mem_map.mp hq
    by_cases z : x.1 = k
    · rw [if_pos z] at e
      rw [← e, z]; exact hk
    · rw [if_neg z] at e
      rw [← e]; exact h x hx
  · rcases List.mem_append.mp hq with m | m
    · exact h q m
    · rw [List.mem_singleton.mp m]; exact hk
theorem mrgI_mem {P : List Int × β → Prop} : ∀ {more kvs : List (List Int × β)}, (∀ q ∈ kvs, P q) → (∀ q ∈ more, P q) → ∀ q ∈ mrgI kvs more, P q
  | [], kvs, h, _ => h
  | p :: r, kvs, h, k => mrgI_mem (more := r) (putI_mem h (k p List.mem_cons_self)) fun q hq => k q (List.mem_cons_of_mem _ hq)
theorem putI_keys (kvs : List (List Int × β)) (k : List Int) (v : β) : (putI kvs k v).map Prod.fst = if k ∈ kvs.map Prod.fst then kvs.map Prod.fst else kvs.map Prod.fst ++ [k] := by
  unfold putI
  by_cases h : k ∈ kvs.map Prod.fst
  · have h' : (kvs.any fun q => decide (q.1 = k)) = true := by
      obtain ⟨q, hq, e⟩ := List.mem_map.mp h
      exact List.any_eq_true.mpr ⟨q, hq, decide_eq_true e⟩
    rw [if_pos h, if_pos h', List.map_map]
    apply List.map_congr_left
    intro q _
    show (if q.1 = k then (q.1, v) else q).1 = q.1
    by_cases z : q.1 = k
    · rw [if_pos z]
    · rw [if_neg z]
  · have h' : ¬ (kvs.any fun q => decide (q.1 = k)) = true := fun z => by
      obtain ⟨q, hq, e⟩ := List.any_eq_true.mp z
      exact h (List.mem_map.mpr ⟨q, hq, of_decide_eq_true e⟩)
    rw [if_neg h, if_neg h', List.map_append]; rfl
end
/-! ### the rules by values -/
theorem like_key : Like D.key 1 := by
  have e : ∀ ns : List Int, py (.key ns) = py (.tup (ns.map D.int)) := fun ns => by
    show PyData.tuple _ = PyData.tuple _
    congr 1
    induction ns with
    | nil => rfl
    | cons n ns ih => rw [List.map_cons, ih]; rfl
  refine ⟨fun _ => rfl, fun a b => ?_⟩
  rw [e, e]
  have := like_ints.eq a b
  simp only [lsD, py, PyData.eqv] at this ⊢
  exact this
/-- the slot of a dict with such keys -/
abbrev dcS {β : Type} (enc : β → D) (m : List (List Int × β)) : Sl := .prv (.dct (m.map Prod.fst)) (m.map fun q => enc q.2)
section
variable {K : Fg} {G : Ctx} {te ta tb tc : TE} {tt tu : TT} {t u r : TS} {d e : D}
theorem ev_tupK {xs : List Int} (h : EvD K te G (inD xs)) : EvD K (tCB (fun xs H Q => ∃ p ys, xs = [V.ref p] ∧ ((SqL K H p ys ∧ ∀ l, H l = none → Q (.ref l) (upd H l (.tup ys))) ∨ (SqT K H p ys ∧ Q (.ref p) H))) (tCons te tNil)) G (.key xs) := ev_cb (ea_cons h ea_nil) fun F H vs s hx Q q => by
  obtain ⟨v, r, rfl, h1, h2⟩ := hx
  cases h2
  obtain ⟨p, us, rfl, h3, h4⟩ := h1
  have e := h4.ints
  subst e
  exact ⟨p, _, rfl, .inl ⟨.inl (.inl (s _ _ h3)), fun l hl => q (.ref l) (upd F l (.tup (xs.map V.int))) _ (Step.newF s hl) ⟨l, rfl, upd_same⟩⟩⟩
theorem en_listofK {xs : List Int} (h : EvD K te G (.key xs)) : EvN K (tCB (fun xs H Q => ∃ p ys, xs = [V.ref p] ∧ (SqL K H p ys ∨ SqT K H p ys) ∧ ∀ l, H l = none → Q (.ref l) (upd H l (.lst ys))) (tCons te tNil)) G (xs.map D.int) := en_cb (ea_cons h ea_nil) fun F H vs s hx Q q => by
  obtain ⟨v, r, rfl, h1, h2⟩ := hx
  cases h2
  obtain ⟨p, rfl, h3⟩ := h1
  exact ⟨p, xs.map V.int, rfl, .inr (.inl (.inl (s _ _ h3))), fun l hl => q l _ F _ (Step.newP s hl) hl (s.free hl) upd_same Reps.ofInts⟩
theorem ev_lenK {xs : List Int} (h : EvD K te G (.key xs)) : EvD K (tCB (fun xs H Q => ∃ p ys, xs = [V.ref p] ∧ (SqL K H p ys ∨ SqT K H p ys) ∧ Q (.int ys.length) H) (tCons te tNil)) G (.int xs.length) := ev_cb (ea_cons h ea_nil) fun F H vs s hx Q q => by
  obtain ⟨v, r, rfl, h1, h2⟩ := hx
  cases h2
  obtain ⟨p, rfl, h3⟩ := h1
  exact ⟨p, xs.map V.int, rfl, .inr (.inl (.inl (s _ _ h3))), q _ F H (Step.refl s) (by show V.int _ = V.int _; rw [List.length_map])⟩
/-- one place -/
theorem st_setM {i : Nat} {c : Sl} (h : EvM K te G c) (hc : c ≠ .un) : StD K (tAsg te (gName i)) G (.nx (G.set i c)) := fun F0 H0 F H σ E s q =>
  h F0 H0 F H σ s _ fun v F1 H1 t1 m1 => by
    have s1 := s.step t1
    exact q _ F1 H1 (s1.setM (i := i) m1 s.st.hh hc fun p _ hp k es e => s.nown (F' := F) (H' := H) hp k es e) t1.ff
theorem reps_at {F : Hp} : ∀ {ds : List D} {vs : List V}, vs.length = ds.length → (∀ (i : Nat) (d : D) (v : V), ds[i]? = some d → vs[i]? = some v → Rep K F d v) → Reps K F ds vs
  | [], [], _, _ => rfl
  | [], _ :: _, h, _ => by simp at h
  | _ :: _, [], h, _ => by simp at h
  | d :: ds, v :: vs, h, f => ⟨v, vs, rfl, f 0 d v rfl rfl, reps_at (by simpa using h) fun i d' v' h1 h2 => f (i + 1) d' v' (by simpa using h1) (by simpa using h2)⟩
theorem dct_ho {β : Type} (m : List (List Int × (β × V))) : PvK.ho (.dct (m.map Prod.fst)) (m.map fun q : List Int × (β × V) => q.2.2) = .dT (m.map fun q : List Int × (β × V) => ((q.1.map Sum.inl : List Key), q.2.2)) := by
  show HO.dT _ = HO.dT _
  congr 1
  induction m with
  | nil => rfl
  | cons q m ih => rw [List.map_cons, List.map_cons, List.map_cons, List.map_cons, List.zip_cons_cons, ih]
/-- dict([(k, v), ..]) -/
theorem em_dict {β : Type} {enc : β → D} {l : List (List Int × β)} (hl : l.length ≤ LN) (h : EvD K te G (lsD (fun x : List Int × β => D.tup [.key x.1, enc x.2]) l)) : EvM K (tCB (rDictT K) (tCons te tNil)) G (dcS enc (mrgI [] l)) := fun F0 H0 F H σ s Q q =>
  h F0 H0 F H σ s _ fun v F1 H1 t1 r1 => by
    obtain ⟨a, vs, rfl, g1, g2⟩ := r1
    -- the pairs
    have pr : ∀ (l : List (List Int × β)) (vs : List V), Reps K F1 (l.map fun x : List Int × β => D.tup [.key x.1, enc x.2]) vs → ∃ qs : List (List Int × (β × V) × Addr × Addr), qs.map (fun q : List Int × (β × V) × Addr × Addr => (q.1, q.2.1.1)) = l ∧ vs = qs.map (fun q : List Int × (β × V) × Addr × Addr => V.ref q.2.2.1) ∧ ∀ q ∈ qs, SqT K F1 q.2.2.1 [.ref q.2.2.2, q.2.1.2] ∧ F1 q.2.2.2 = some (.tup (q.1.map V.int)) ∧ Rep K F1 (enc q.2.1.1) q.2.1.2 := by
      intro l
      induction l with
      | nil =>
        intro vs r
        have : vs = [] := r
        subst this
        exact ⟨[], rfl, rfl, fun q hq => absurd hq List.not_mem_nil⟩
      | cons x l ih =>
        intro vs r
        obtain ⟨v, ws, rfl, h1, h2⟩ := r
        obtain ⟨qs, e1, e2, e3⟩ := ih ws h2
        obtain ⟨p, us, rfl, h3, h4⟩ := h1
        obtain ⟨u1, us1, rfl, h5, h6⟩ := h4
        obtain ⟨u2, us2, rfl, h7, h8⟩ := h6
        cases h8
        obtain ⟨b, rfl, h9⟩ := h5
        refine ⟨(x.1, (x.2, u2), p, b) :: qs, by rw [List.map_cons, e1], by rw [List.map_cons, e2], fun q hq => ?_⟩
        rcases List.mem_cons.mp hq with rfl | hq
        · exact ⟨h3, h9, h7⟩
        · exact e3 q hq
    obtain ⟨qs, e1, rfl, e3⟩ := pr l vs g2
    have ql : qs.length = l.length := by rw [← e1, List.length_map]
    refine ⟨a, qs.map fun q : List Int × (β × V) × Addr × Addr => (q.2.2.1, q.2.2.2, q.1.map Sum.inl, q.2.1.2), rfl, ?_, by rw [List.length_map, ql]; exact LMs hl, fun y hy => ?_, fun p hp => ?_⟩
    · rw [List.map_map]
      exact .inl (.inl (t1.fh _ _ g1))
    · obtain ⟨q, hq, rfl⟩ := List.mem_map.mp hy
      obtain ⟨k1, k2, k3⟩ := e3 q hq
      refine ⟨sqT_mono t1.fh k1, ?_⟩
      rw [t1.fh _ _ k2, List.map_map]
      rfl
    · -- what is made
      let m : List (List Int × (β × V)) := mrgI [] (qs.map fun q => (q.1, q.2.1))
      have hm : mergeT [] ((qs.map fun q => (q.2.2.1, q.2.2.2, (q.1.map Sum.inl : List Key), q.2.1.2)).map fun q => q.2.2) = m.map fun q => ((q.1.map Sum.inl : List Key), q.2.2) := by
        have h1 := mrgI_key (qs.map fun q => (q.1, q.2.1.2)) []
        have h2 := mrgI_map (fun q : β × V => q.2) (qs.map fun q => (q.1, q.2.1)) []
        rw [List.map_nil, List.map_map] at h2
        rw [List.map_nil, List.map_map] at h1
        rw [List.map_map]
        have h3 : m.map (fun q => (q.1, q.2.2)) = mrgI [] (qs.map fun q => (q.1, q.2.1.2)) := h2
        have h4 : m.map (fun q => ((q.1.map Sum.inl : List Key), q.2.2)) = (m.map fun q => (q.1, q.2.2)).map fun q => ((q.1.map Sum.inl : List Key), q.2) := by rw [List.map_map]; rfl
        rw [h4, h3, h1]
        rfl
      have hd : m.map (fun q => (q.1, q.2.1)) = mrgI [] l := by
        have h2 := mrgI_map (fun q : β × V => q.1) (qs.map fun q => (q.1, q.2.1)) []
        rw [List.map_nil, List.map_map] at h2
        rw [← e1]
        exact h2
      have hr : ∀ q ∈ m, Rep K F1 (enc q.2.1) q.2.2 := mrgI_mem (P := fun q : List Int × (β × V) => Rep K F1 (enc q.2.1) q.2.2) (fun q hq => absurd hq List.not_mem_nil) fun q hq => by
        obtain ⟨y, hy, rfl⟩ := List.mem_map.mp hq
        exact (e3 y hy).2.2
      rw [hm, ← dct_ho m]
      have t2 : Step F1 H1 F1 (upd H1 p (PvK.ho (.dct (m.map Prod.fst)) (m.map fun q => q.2.2))) := Step.newP t1.fh hp
      refine q _ F1 _ (t1.trans t2) ?_
      have ek : (mrgI [] l).map Prod.fst = m.map Prod.fst := by rw [← hd, List.map_map]; rfl
      have ev : (mrgI [] l).map (fun q => enc q.2) = m.map fun q => enc q.2.1 := by rw [← hd, List.map_map]; rfl
      show MOk K H F1 _ (.prv (.dct ((mrgI [] l).map Prod.fst)) ((mrgI [] l).map fun q => enc q.2)) _
      rw [ek, ev]
      refine ⟨p, m.map fun q => q.2.2, rfl, upd_same, t1.fh.free hp, t1.hh.free hp, reps_at (by simp) fun i d v h1 h2 => ?_⟩
      rw [List.getElem?_map] at h1 h2
      cases hq : m[i]? with
      | none => rw [hq] at h1; cases h1
      | some q =>
        rw [hq] at h1 h2
        cases h1
        cases h2
        exact hr q (List.mem_of_getElem? hq)
/-- all tuples may be shown -/
theorem step_tups {F H : Hp} (s : Same F H) : ∃ F', Step F H F' H ∧ ∀ b vs, H b = some (.tup vs) → F' b = some (.tup vs) := by
  refine ⟨fun a => match F a with
    | some o => some o
    | none => match H a with
      | some (.tup vs) => some (.tup vs)
      | _ => none, ⟨fun b o e => by show (match F b with | some o => some o | none => _) = _; rw [e], Same.refl _, fun b o e => ?_, fun b n => ?_⟩, fun b vs e => ?_⟩
  · cases q : F b with
    | some o' =>
      rw [q] at e
      cases e
      exact s _ _ q
    | none =>
      rw [q] at e
      cases q2 : H b with
      | none => rw [q2] at e; cases e
      | some u =>
        rw [q2] at e
        cases u <;> first
          | (cases e; rfl)
          | cases e
  · cases q : F b with
    | some o' => exact .inl (fun z => nomatch z)
    | none =>
      rw [q] at n
      cases q2 : H b with
      | none => exact .inr (.inl q2)
      | some u =>
        rw [q2] at n
        cases u <;> first
          | exact .inr (.inr ⟨_, q2⟩)
          | exact absurd rfl n
  · show (match F b with | some o => some o | none => _) = _
    cases q : F b with
    | some o' =>
      have := s _ _ q
      rw [e] at this
      cases this
      rfl
    | none => rw [e]
/-- sorted(d) -/
theorem en_sortDct {β : Type} {enc : β → D} {m : List (List Int × β)} {i : Nat} (hi : G[i]? = some (dcS enc m)) (hne : ∀ k ∈ m.map Prod.fst, k ≠ []) : EvN K (tCB rSortDT (tCons (tVar i) tNil)) G (((m.map Prod.fst).mergeSort (leD D.key)).map D.key) := fun F0 H0 F H σ s Q q => by
  obtain ⟨a, vs, e, h1, h2, h3, h4⟩ := s.prv hi
  have hvl : vs.length = m.length := by rw [h4.len, List.length_map]
  refine ⟨.ref a, e, a, (((m.map Prod.fst).map fun k => (k.map Sum.inl : List Key)).zip vs), m.map Prod.fst, rfl, (show H a = some (.dT (((m.map Prod.fst).map fun k => (k.map Sum.inl : List Key)).zip vs)) from h1), by rw [List.map_fst_zip (by simp [hvl])], hne, fun p bs hp hb1 hb2 => ?_⟩
  obtain ⟨F', st, sh⟩ := step_tups s.st.fh
  refine q p (bs.map V.ref) F' _ (st.trans (Step.newP st.fh hp)) hp (st.fh.free hp) upd_same (reps_at (by rw [List.length_map, List.length_map, List.length_mergeSort, hb1]) fun j d v e1 e2 => ?_)
  rw [List.getElem?_map] at e1 e2
  cases hk : ((m.map Prod.fst).mergeSort (leD D.key))[j]? with
  | none => rw [hk] at e1; cases e1
  | some k =>
    rw [hk] at e1
    cases e1
    obtain ⟨b, k1, k2⟩ := hb2 j k hk
    rw [k1] at e2
    cases e2
    exact ⟨b, rfl, sh _ _ k2⟩
end
end Cw
set_option maxHeartbeats 4000000
namespace Cw
open Lean.Grind
/-! ### sums and square tables, over a ring -/
section
variable {R : Type} [CommRing R]
def sg : Nat → (Nat → R) → R
  | 0, _ => 0
  | n + 1, f => sg n f + f n
theorem sg_congr {f h : Nat → R} : ∀ {n : Nat}, (∀ i, i < n → f i = h i) → sg n f = sg n h
  | 0, _ => rfl
  | n + 1, e => by
    show sg n f + f n = sg n h + h n
    rw [sg_congr fun i hi => e i (by omega), e n (by omega)]
theorem sg_add {f h : Nat → R} : ∀ {n : Nat}, sg n (fun i => f i + h i) = sg n f + sg n h
  | 0 => by show (0 : R) = 0 + 0; grind
  | n + 1 => by
    show sg n (fun i => f i + h i) + (f n + h n) = (sg n f + f n) + (sg n h + h n)
    rw [sg_add]; grind
theorem sg_mul {f : Nat → R} {c : R} : ∀ {n : Nat}, sg n (fun i => c * f i) = c * sg n f
  | 0 => by show (0 : R) = c * 0; grind
  | n + 1 => by
    show sg n (fun i => c * f i) + c * f n = c * (sg n f + f n)
    rw [sg_mul]; grind
theorem sg_mulr {f : Nat → R} {c : R} : ∀ {n : Nat}, sg n (fun i => f i * c) = sg n f * c
  | 0 => by show (0 : R) = 0 * c; grind
  | n + 1 => by
    show sg n (fun i => f i * c) + f n * c = (sg n f + f n) * c
    rw [sg_mulr]; grind
theorem sg_zero {f : Nat → R} : ∀ {n : Nat}, (∀ i, i < n → f i = 0) → sg n f = 0
  | 0, _ => rfl
  | n + 1, e => by
    show sg n f + f n = 0
    rw [sg_zero fun i hi => e i (by omega), e n (by omega)]; grind
theorem sg_first {f : Nat → R} : ∀ {n : Nat}, sg (n + 1) f = f 0 + sg n fun i => f (i + 1)
  | 0 => by show (0 : R) + f 0 = f 0 + 0; grind
  | n + 1 => by
    show sg (n + 1) f + f (n + 1) = f 0 + (sg n (fun i => f (i + 1)) + f (n + 1))
    rw [sg_first]; grind
theorem sg_swap {f : Nat → Nat → R} {m : Nat} : ∀ {n : Nat}, sg n (fun i => sg m (f i)) = sg m fun j => sg n fun i => f i j
  | 0 => (sg_zero (fun _ _ => rfl)).symm
  | n + 1 => by
    show sg n (fun i => sg m (f i)) + sg m (f n) = sg m fun j => sg n (fun i => f i j) + f n j
    rw [sg_swap, ← sg_add]
theorem sg_one {f : Nat → R} {j : Nat} : ∀ {n : Nat}, j < n → (∀ i, i < n → i ≠ j → f i = 0) → sg n f = f j
  | 0, h, _ => by omega
  | n + 1, h, e => by
    show sg n f + f n = f j
    by_cases q : j = n
    · subst q
      rw [sg_zero fun i hi => e i (by omega) (by omega)]; grind
    · rw [sg_one (by omega) fun i hi ne => e i (by omega) ne, e n (by omega) (fun z => q z.symm)]; grind
def mm (g : Nat) (A B : Nat → Nat → R) : Nat → Nat → R := fun i j => sg g fun k => A i k * B k j
def dl : Nat → Nat → R := fun i j => if i = j then 1 else 0
def Eg (g : Nat) (A B : Nat → Nat → R) : Prop := ∀ i j, i < g → j < g → A i j = B i j
variable {g : Nat} {A B C A' B' : Nat → Nat → R}
theorem Eg.rfl' : Eg g A A := fun _ _ _ _ => rfl
theorem Eg.symm (h : Eg g A B) : Eg g B A := fun i j a b => (h i j a b).symm
theorem Eg.trans (h : Eg g A B) (k : Eg g B C) : Eg g A C := fun i j a b => (h i j a b).trans (k i j a b)
theorem mm_cong (h : Eg g A A') (k : Eg g B B') : Eg g (mm g A B) (mm g A' B') := fun i j a b => sg_congr fun l hl => by rw [h i l a hl, k l j hl b]
theorem mm_assoc : mm g (mm g A B) C = mm g A (mm g B C) := funext fun i => funext fun j => by
  show sg g (fun l => sg g (fun k => A i k * B k l) * C l j) = sg g fun k => A i k * sg g fun l => B k l * C l j
  rw [show (fun l => sg g (fun k => A i k * B k l) * C l j) = fun l => sg g fun k => A i k * (B k l * C l j) from funext fun l => by
    rw [← sg_mulr]; exact sg_congr fun k _ => by grind]
  rw [sg_swap]
  exact sg_congr fun k _ => sg_mul
theorem mm_dl : Eg g (mm g A dl) A := fun i j hi hj => by
  show sg g (fun k => A i k * dl k j) = A i j
  rw [sg_one hj fun k _ ne => by unfold dl; rw [if_neg ne]; grind]
  unfold dl; rw [if_pos rfl]; grind
theorem dl_mm : Eg g (mm g dl A) A := fun i j hi hj => by
  show sg g (fun k => dl i k * A k j) = A i j
  rw [sg_one hi fun k _ ne => by unfold dl; rw [if_neg (fun z => ne z.symm)]; grind]
  unfold dl; rw [if_pos rfl]; grind
def mpw (g : Nat) (A : Nat → Nat → R) : Nat → Nat → Nat → R
  | 0 => dl
  | n + 1 => mm g (mpw g A n) A
theorem mpw_add (m : Nat) : ∀ n : Nat, Eg g (mm g (mpw g A m) (mpw g A n)) (mpw g A (m + n))
  | 0 => mm_dl
  | n + 1 => by
    show Eg g (mm g (mpw g A m) (mm g (mpw g A n) A)) (mm g (mpw g A (m + n)) A)
    rw [← mm_assoc]
    exact mm_cong (mpw_add m n) Eg.rfl'
theorem mpw_one : Eg g (mpw g A 1) A := dl_mm
theorem mpw_two : ∀ n : Nat, Eg g (mpw g (mm g A A) n) (mpw g A (2 * n))
  | 0 => Eg.rfl'
  | n + 1 => by
    show Eg g (mm g (mpw g (mm g A A) n) (mm g A A)) (mm g (mm g (mpw g A (2 * n)) A) A)
    rw [mm_assoc]
    exact mm_cong (mpw_two n) Eg.rfl'
theorem mpw_cong (h : Eg g A B) : ∀ n : Nat, Eg g (mpw g A n) (mpw g B n)
  | 0 => Eg.rfl'
  | n + 1 => mm_cong (mpw_cong h n) h
end
/-! ### tables as lists of rows of numbers -/
abbrev Mat : Type := List (List Int)
def row (A : Mat) (i : Nat) : List Int := A.getD i []
def en (p : Int) (A : Mat) : Nat → Nat → ZM p := fun i j => ZM.mk p (cf (row A i) j)
structure MxOk (p : Int) (g : Nat) (A : Mat) : Prop where
  ln : A.length = g
  rl : ∀ l ∈ A, l.length = g
  bd : ∀ l ∈ A, ∀ x ∈ l, 0 ≤ x ∧ x < p
section
variable {p : Int} {g : Nat} {A B : Mat}
theorem row_mem {i : Nat} (h : i < A.length) : row A i ∈ A := by
  unfold row; rw [List.getD_eq_getElem?_getD, List.getElem?_eq_getElem h]; exact List.getElem_mem h
theorem row_map {f : List Int → List Int} {i : Nat} (h : i < A.length) : row (A.map f) i = f (row A i) := by
  unfold row; rw [List.getD_eq_getElem?_getD, List.getD_eq_getElem?_getD, List.getElem?_map, List.getElem?_eq_getElem h]; rfl
theorem MxOk.row (h : MxOk p g A) {i : Nat} (hi : i < g) : (row A i).length = g ∧ ∀ x ∈ Cw.row A i, 0 ≤ x ∧ x < p := ⟨h.rl _ (row_mem (by rw [h.ln]; exact hi)), h.bd _ (row_mem (by rw [h.ln]; exact hi))⟩
theorem MxOk.cell (h : MxOk p g A) {i j : Nat} (hi : i < g) (hj : j < g) : 0 ≤ cf (Cw.row A i) j ∧ cf (Cw.row A i) j < p := by
  obtain ⟨a, b⟩ := h.row hi
  exact b _ (List.mem_of_getElem? (cf_get (by rw [a]; exact hj)))
theorem rows_ext {A B : Mat} (hl : A.length = B.length) (h : ∀ i, i < A.length → row A i = row B i) : A = B := by
  apply List.ext_getElem? fun i => ?_
  by_cases hi : i < A.length
  · have := h i hi
    unfold row at this
    rw [List.getD_eq_getElem?_getD, List.getD_eq_getElem?_getD, List.getElem?_eq_getElem hi, List.getElem?_eq_getElem (by omega)] at this
    rw [List.getElem?_eq_getElem hi, List.getElem?_eq_getElem (by omega)]
    exact congrArg some this
  · rw [List.getElem?_eq_none (by omega), List.getElem?_eq_none (by omega)]
theorem mx_ext (hp : 0 < p) (hA : MxOk p g A) (hB : MxOk p g B) (h : Eg g (en p A) (en p B)) : A = B :=
  rows_ext (hA.ln.trans hB.ln.symm) fun i hi => by
    rw [hA.ln] at hi
    refine cf_ext ((hA.row hi).1.trans (hB.row hi).1.symm) fun j => ?_
    by_cases hj : j < g
    · have e := ZM.exact (h i j hi hj)
      have a := hA.cell hi hj
      have b := hB.cell hi hj
      rw [Int.emod_eq_of_lt a.1 a.2, Int.emod_eq_of_lt b.1 b.2] at e
      exact e
    · rw [cf_out (by rw [(hA.row hi).1]; omega), cf_out (by rw [(hB.row hi).1]; omega)]
/-- [[line[at] for line in other] for at in range(len(other))] -/
def colsOf (B : Mat) : Mat := (rangeI 0 B.length).map fun j => B.map fun l => cf l j.toNat
def dotI (a b : List Int) : Int := ((a.zip b).map fun q => q.1 * q.2).sum
def mxMul (p : Int) (A B : Mat) : Mat := A.map fun l => (colsOf B).map fun c => dotI l c % p
theorem dot_sg : ∀ {a b : List Int} {n : Nat}, a.length ≤ n → b.length = n → ZM.mk p (dotI a b) = sg n fun k => ZM.mk p (cf a k) * ZM.mk p (cf b k)
  | [], b, n, h, k => by
    rw [sg_zero fun i _ => by rw [cf_nil, ZM.mk_zero]; grind]
    rfl
  | x :: a, [], n, h, k => by
    rw [List.length_cons] at h
    rw [List.length_nil] at k
    omega
  | x :: a, y :: b, 0, h, k => by rw [List.length_cons] at h; omega
  | x :: a, y :: b, n + 1, h, k => by
    rw [sg_first, show dotI (x :: a) (y :: b) = x * y + dotI a b from rfl, ← ZM.mk_add, dot_sg (a := a) (b := b) (n := n) (by rw [List.length_cons] at h; omega) (by rw [List.length_cons] at k; omega)]
    rfl
theorem cf_ofmap {f : Int → Int} {n j : Nat} (hj : j < n) : cf ((rangeI 0 n).map f) j = f j := by
  unfold cf
  rw [List.getD_eq_getElem?_getD, List.getElem?_map, rangeI_get hj]
  show f (0 + (j : Int)) = _
  rw [Int.zero_add]
theorem cols_at (hB : MxOk p g B) {j : Nat} (hj : j < g) : row (colsOf B) j = B.map fun l => cf l j := by
  unfold row colsOf
  rw [List.getD_eq_getElem?_getD, List.getElem?_map, rangeI_get (by rw [hB.ln]; exact hj)]
  show B.map (fun l => cf l (0 + (j : Int)).toNat) = _
  rw [Int.zero_add, Int.toNat_natCast]
theorem cf_mapr {f : List Int → Int} {i : Nat} (h : i < A.length) : cf (A.map f) i = f (row A i) := by
  unfold cf row; rw [List.getD_eq_getElem?_getD, List.getD_eq_getElem?_getD, List.getElem?_map, List.getElem?_eq_getElem h]; rfl
theorem cols_len : (colsOf B).length = B.length := by unfold colsOf; rw [List.length_map, rangeI_len]
theorem mul_ok (hp : 0 < p) (hA : MxOk p g A) (hB : MxOk p g B) : MxOk p g (mxMul p A B) where
  ln := by unfold mxMul; rw [List.length_map, hA.ln]
  rl := fun l hl => by
    obtain ⟨a, _, rfl⟩ := List.mem_map.mp hl
    rw [List.length_map, cols_len, hB.ln]
  bd := fun l hl x hx => by
    obtain ⟨a, _, rfl⟩ := List.mem_map.mp hl
    obtain ⟨c, _, rfl⟩ := List.mem_map.mp hx
    exact ⟨Int.emod_nonneg _ (by omega), Int.emod_lt_of_pos _ hp⟩
theorem mul_en (hA : MxOk p g A) (hB : MxOk p g B) : Eg g (en p (mxMul p A B)) (mm g (en p A) (en p B)) := fun i j hi hj => by
  unfold en mxMul
  rw [row_map (by rw [hA.ln]; exact hi), cf_mapr (by rw [cols_len, hB.ln]; exact hj), cols_at hB hj, ZM.mod_mk, dot_sg (Nat.le_of_eq (hA.row hi).1) (by rw [List.length_map, hB.ln])]
  exact sg_congr fun k hk => by rw [cf_mapr (by rw [hB.ln]; exact hk)]
def mxOne (g : Nat) : Mat := (rangeI 0 g).map fun low => (rangeI 0 g).map fun high => if low = high then 1 else 0
theorem one_row {i : Nat} (hi : i < g) : row (mxOne g) i = (rangeI 0 g).map fun high => if (i : Int) = high then 1 else 0 := by
  unfold row mxOne
  rw [List.getD_eq_getElem?_getD, List.getElem?_map, rangeI_get hi]
  show (rangeI 0 g).map (fun high => if 0 + (i : Int) = high then (1 : Int) else 0) = _
  rw [Int.zero_add]
theorem one_ok (hp : 1 < p) : MxOk p g (mxOne g) where
  ln := by unfold mxOne; rw [List.length_map, rangeI_len]
  rl := fun l hl => by
    obtain ⟨a, _, rfl⟩ := List.mem_map.mp hl
    rw [List.length_map, rangeI_len]
  bd := fun l hl x hx => by
    obtain ⟨a, _, rfl⟩ := List.mem_map.mp hl
    obtain ⟨c, _, rfl⟩ := List.mem_map.mp hx
    split <;> omega
theorem one_en : Eg g (en p (mxOne g)) dl := fun i j hi hj => by
  unfold en
  rw [one_row hi, cf_ofmap hj]
  unfold dl
  by_cases q : i = j
  · subst q; rw [if_pos rfl, if_pos rfl]; rfl
  · rw [if_neg q, if_neg (by omega)]; rfl
/-! ### powers by squaring -/
def lrC (s : Mat × Mat × Int) : Bool := decide (0 < s.2.2)
def lrS (p : Int) (s : Mat × Mat × Int) : Mat × Mat × Int := (if s.2.2 % 2 = 1 then mxMul p s.1 s.2.1 else s.1, mxMul p s.2.1 s.2.1, s.2.2 / 2)
def mxRaised (p : Int) (L : Mat) (n : Int) : Mat := (whileN lrC (lrS p) n.toNat (mxOne L.length, L, n)).1
theorem raised_inv (hp : 0 < p) : ∀ (N : Nat) (X B : Mat) (n : Int), 0 ≤ n → n.toNat ≤ N → MxOk p g X → MxOk p g B →
    MxOk p g (whileN lrC (lrS p) N (X, B, n)).1 ∧ Eg g (en p (whileN lrC (lrS p) N (X, B, n)).1) (mm g (en p X) (mpw g (en p B) n.toNat))
  | 0, X, B, n, h0, h, hX, hB => by
    have e : n.toNat = 0 := by omega
    rw [e]
    exact ⟨hX, mm_dl.symm⟩
  | N + 1, X, B, n, h0, h, hX, hB => by
    unfold whileN
    by_cases q : 0 < n
    · rw [if_pos (show lrC (X, B, n) = true from decide_eq_true q)]
      have hn : (n / 2).toNat ≤ N := by omega
      have hBB := mul_ok hp hB hB
      have e2 : Eg g (mpw g (en p (mxMul p B B)) (n / 2).toNat) (mpw g (en p B) (2 * (n / 2).toNat)) := (mpw_cong (mul_en hB hB) _).trans (mpw_two _)
      by_cases o : n % 2 = 1
      · have i := raised_inv hp N (mxMul p X B) (mxMul p B B) (n / 2) (by omega) hn (mul_ok hp hX hB) hBB
        rw [show lrS p (X, B, n) = (mxMul p X B, mxMul p B B, n / 2) by unfold lrS; rw [if_pos o]]
        refine ⟨i.1, i.2.trans ((mm_cong (mul_en hX hB) e2).trans ?_)⟩
        rw [mm_assoc]
        refine mm_cong Eg.rfl' ?_
        have e3 := mpw_add (g := g) (A := en p B) 1 (2 * (n / 2).toNat)
        rw [show 1 + 2 * (n / 2).toNat = n.toNat by omega] at e3
        exact (mm_cong mpw_one.symm Eg.rfl').trans e3
      · have i := raised_inv hp N X (mxMul p B B) (n / 2) (by omega) hn hX hBB
        rw [show lrS p (X, B, n) = (X, mxMul p B B, n / 2) by unfold lrS; rw [if_neg o]]
        refine ⟨i.1, i.2.trans (mm_cong Eg.rfl' ?_)⟩
        rw [show 2 * (n / 2).toNat = n.toNat by omega] at e2
        exact e2
    · rw [if_neg (show ¬ lrC (X, B, n) = true by unfold lrC; simpa using q)]
      have e : n.toNat = 0 := by omega
      rw [e]
      exact ⟨hX, mm_dl.symm⟩
theorem raised_ok (hp : 1 < p) {n : Int} (h0 : 0 ≤ n) (hA : MxOk p g A) : MxOk p g (mxRaised p A n) ∧ Eg g (en p (mxRaised p A n)) (mpw g (en p A) n.toNat) := by
  unfold mxRaised
  rw [hA.ln]
  have i := raised_inv (by omega) n.toNat (mxOne g) A n h0 (Nat.le_refl _) (one_ok hp) hA
  exact ⟨i.1, i.2.trans ((mm_cong one_en Eg.rfl').trans dl_mm)⟩
/-! ### the law's way: rows brought on, one factor at a time -/
def brgt (p : Int) (L : Mat) (n : List Int) : List Int := (rangeI 0 L.length).map fun j => ((n.zip L).map fun q => q.1 * cf q.2 j.toNat).sum % p
theorem brgt_len {n : List Int} : (brgt p A n).length = A.length := by unfold brgt; rw [List.length_map, rangeI_len]
theorem brgt_cf {n : List Int} {j : Nat} (hj : j < A.length) : cf (brgt p A n) j = dotI n (A.map fun l => cf l j) % p := by
  unfold brgt dotI
  rw [cf_ofmap hj, Int.toNat_natCast, List.zip_map_right, List.map_map]
  rfl
theorem brgt_bd (hp : 0 < p) {n : List Int} : ∀ x ∈ brgt p A n, 0 ≤ x ∧ x < p := fun x hx => by
  obtain ⟨c, _, rfl⟩ := List.mem_map.mp hx
  exact ⟨Int.emod_nonneg _ (by omega), Int.emod_lt_of_pos _ hp⟩
theorem brgt_en (hA : MxOk p g A) {n : List Int} (hn : n.length ≤ g) {j : Nat} (hj : j < g) : ZM.mk p (cf (brgt p A n) j) = sg g fun k => ZM.mk p (cf n k) * en p A k j := by
  rw [brgt_cf (by rw [hA.ln]; exact hj), ZM.mod_mk, dot_sg hn (by rw [List.length_map, hA.ln])]
  exact sg_congr fun k hk => by rw [cf_mapr (by rw [hA.ln]; exact hk)]; rfl
theorem brs_ok (hp : 0 < p) (hA : MxOk p g A) (hB : MxOk p g B) : MxOk p g (B.map (brgt p A)) where
  ln := by rw [List.length_map, hB.ln]
  rl := fun l hl => by
    obtain ⟨a, _, rfl⟩ := List.mem_map.mp hl
    rw [brgt_len, hA.ln]
  bd := fun l hl x hx => by
    obtain ⟨a, _, rfl⟩ := List.mem_map.mp hl
    exact brgt_bd hp x hx
theorem brs_en (hA : MxOk p g A) (hB : MxOk p g B) : Eg g (en p (B.map (brgt p A))) (mm g (en p B) (en p A)) := fun i j hi hj => by
  show ZM.mk p (cf (row (B.map (brgt p A)) i) j) = _
  rw [row_map (by rw [hB.ln]; exact hi), brgt_en hA (Nat.le_of_eq (hB.row hi).1) hj]
  rfl
def brN (p : Int) (A : Mat) : Nat → Mat
  | 0 => mxOne A.length
  | n + 1 => (brN p A n).map (brgt p A)
theorem brN_ok (hp : 1 < p) (hA : MxOk p g A) : ∀ n : Nat, MxOk p g (brN p A n) ∧ Eg g (en p (brN p A n)) (mpw g (en p A) n)
  | 0 => by
    unfold brN
    rw [hA.ln]
    exact ⟨one_ok hp, one_en⟩
  | n + 1 => by
    obtain ⟨a, b⟩ := brN_ok hp hA n
    exact ⟨brs_ok (by omega) hA a, (brs_en hA a).trans (mm_cong b Eg.rfl')⟩
/-- both ways give one table -/
theorem raised_brN (hp : 1 < p) (hA : MxOk p g A) (n : Nat) : mxRaised p A n = brN p A n := by
  obtain ⟨a, b⟩ := raised_ok hp (n := (n : Int)) (by omega) hA
  obtain ⟨c, d⟩ := brN_ok hp hA n
  rw [Int.toNat_natCast] at b
  exact mx_ext (by omega) a c (b.trans d.symm)
end
end Cw
set_option maxHeartbeats 4000000
namespace Cw
open Lean.Grind
/-! ### descents of differentials without poles, by a table -/
def gs (c : Cur) : Nat := (((c.2.length : Int) - 2) / 2).toNat
def powH (c : Cur) : List Int := ppow c.1 c.2 ((c.1 - 1) / 2).toNat
def lineL (c : Cur) (low : Int) : List Int := (rangeI 0 (gs c)).map fun high => cf (powH c) (c.1 * (high + 1) - low - 1).toNat
def matL (c : Cur) : Mat := (rangeI 0 (gs c)).map (lineL c)
def tolT (c : Cur) (n : List Int) : Tri := leastT c.1 [] (trim c.1 n) c.2
section
variable {c : Cur}
theorem gs_len (cv : CvOk c) : c.2.length = 2 * gs c + 2 ∧ gs c ≤ 3 := by
  unfold gs
  rcases cv.ln with h | h | h | h <;> rw [h] <;> exact ⟨rfl, by decide⟩
theorem powH_nrm (cv : CvOk c) : Nrm c.1 (powH c) := ppow_nrm (by have := cv.pm.ge; omega) _
theorem mat_ok (cv : CvOk c) : MxOk c.1 (gs c) (matL c) where
  ln := by unfold matL; rw [List.length_map, rangeI_len]
  rl := fun l hl => by
    obtain ⟨a, _, rfl⟩ := List.mem_map.mp hl
    unfold lineL; rw [List.length_map, rangeI_len]
  bd := fun l hl x hx => by
    obtain ⟨a, _, rfl⟩ := List.mem_map.mp hl
    obtain ⟨b, _, rfl⟩ := List.mem_map.mp hx
    exact (powH_nrm cv).bd cv.pos _
theorem mat_row {i : Nat} (hi : i < gs c) : row (matL c) i = lineL c i := by
  unfold row matL
  rw [List.getD_eq_getElem?_getD, List.getElem?_map, rangeI_get hi]
  show lineL c (0 + (i : Int)) = _
  rw [Int.zero_add]
theorem mat_en {i j : Nat} (hi : i < gs c) (hj : j < gs c) : en c.1 (matL c) i j = ZM.mk c.1 (cf (powH c) (c.1 * ((j : Int) + 1) - i - 1).toNat) := by
  unfold en
  rw [mat_row hi]
  unfold lineL
  rw [cf_ofmap hj]
theorem mul_row {p : Int} : ∀ (l : List Int) (g N : Nat) (u : PZ p), l.length ≤ g → (ps p l * u) N = sg g fun j => ZM.mk p (cf l j) * (if j ≤ N then u (N - j) else 0)
  | [], g, N, u, h => by
    rw [ps_nil, show (0 : PZ p) * u = 0 by grind, PS.zero_at, sg_zero fun i _ => by rw [cf_nil, ZM.mk_zero]; grind]
  | x :: l, 0, N, u, h => by rw [List.length_cons] at h; omega
  | x :: l, g + 1, 0, u, h => by
    rw [PS.mul_at0, sg_first, sg_zero (n := g) fun i _ => by rw [if_neg (by omega)]; grind]
    show ZM.mk p x * u 0 = ZM.mk p x * (if 0 ≤ 0 then u (0 - 0) else 0) + 0
    rw [if_pos (Nat.le_refl _)]; grind
  | x :: l, g + 1, N + 1, u, h => by
    rw [PS.mul_atS, sg_first]
    show ZM.mk p x * u (N + 1) + (ps p l * u) N = ZM.mk p x * (if 0 ≤ N + 1 then u (N + 1 - 0) else 0) + sg g fun j => ZM.mk p (cf l j) * (if j + 1 ≤ N + 1 then u (N + 1 - (j + 1)) else 0)
    rw [mul_row l g N u (by rw [List.length_cons] at h; omega), if_pos (Nat.zero_le _)]
    refine congrArg (_ + ·) (sg_congr fun j _ => ?_)
    by_cases q : j ≤ N
    · rw [if_pos q, if_pos (by omega), show N + 1 - (j + 1) = N - j by omega]
    · rw [if_neg q, if_neg (by omega)]
theorem ev_tol (cv : CvOk c) {n : List Int} (hn : n.length ≤ gs c) : PS.Ev c.1.toNat (c.1.toNat - 1) (ps c.1 n * ps c.1 c.2 ^ ((c.1 - 1) / 2).toNat) = ps c.1 (brgt c.1 (matL c) n) := PS.ext fun k => by
  have hp := cv.pos
  have hg := cv.pm.ge
  have ho : c.1 % 2 = 1 := by rcases cv.pm with h | h | h | h | h <;> rw [h] <;> rfl
  obtain ⟨hl, h3⟩ := gs_len cv
  have hm := mat_ok cv
  show (ps c.1 n * ps c.1 c.2 ^ ((c.1 - 1) / 2).toNat) (c.1.toNat - 1 + c.1.toNat * k) = ZM.mk c.1 (cf (brgt c.1 (matL c) n) k)
  rw [← ps_ppow, mul_row n (gs c) _ _ hn]
  have hpn : (c.1.toNat : Int) = c.1 := Int.toNat_of_nonneg (by omega)
  by_cases hk : k < gs c
  · rw [brgt_en hm hn hk]
    refine sg_congr fun j hj => ?_
    rw [mat_en hj hk, if_pos (by omega)]
    show _ * ZM.mk c.1 (cf (powH c) _) = _
    congr 4
    have e : ((c.1.toNat * k : Nat) : Int) = c.1 * k := by rw [Int.natCast_mul, hpn]
    have e2 : c.1 * ((k : Int) + 1) = c.1 * k + c.1 := by rw [Int.mul_add, Int.mul_one]
    omega
  · rw [cf_out (by rw [brgt_len, hm.ln]; omega), ZM.mk_zero]
    refine sg_zero fun j hj => ?_
    have hlen := ppow_len (p := c.1) (a := c.2) (n := ((c.1 - 1) / 2).toNat)
    have hz : cf (powH c) (c.1.toNat - 1 + c.1.toNat * k - j) = 0 := by
      refine cf_out (Nat.le_trans hlen ?_)
      rw [hl]
      have h5 : c.1.toNat * gs c ≤ c.1.toNat * k := Nat.mul_le_mul_left _ (by omega)
      have h6 : ((c.1 - 1) / 2).toNat * (2 * gs c + 2) = (2 * ((c.1 - 1) / 2).toNat) * gs c + 2 * ((c.1 - 1) / 2).toNat := by grind
      have h7 : 2 * ((c.1 - 1) / 2).toNat = c.1.toNat - 1 := by omega
      rw [h6, h7]
      have h8 : (c.1.toNat - 1) * gs c = c.1.toNat * gs c - gs c := by rw [Nat.sub_mul, Nat.one_mul]
      have h9 : gs c ≤ c.1.toNat * gs c := Nat.le_mul_of_pos_left _ (by omega)
      omega
    split
    · show _ * ZM.mk c.1 (cf (powH c) _) = _
      rw [hz, ZM.mk_zero]; grind
    · grind
theorem tol_is (cv : CvOk c) (n : List Int) : Is c (tolT c n) 0 (ps c.1 n) (ps c.1 c.2) := by
  have h := least_is cv (t := []) (s := trim c.1 n) (b := c.2) nrm_nil (trim_nrm cv.pos _) cv.nr cv.ne
  rw [ps_nil, ps_trim] at h
  exact h
theorem last_tol (cv : CvOk c) {n : List Int} (hn : n.length ≤ gs c) : fLast c (tolT c n) = tolT c (brgt c.1 (matL c) n) := by
  have hp := cv.pos
  have pm := cv.pm
  have hg := pm.ge
  have ho : c.1 % 2 = 1 := by rcases pm with h | h | h | h | h <;> rw [h] <;> rfl
  have hI := tol_is cv n
  have hT := hI.ls
  have hpn : (c.1.toNat : Int) = c.1 := Int.toNat_of_nonneg (by omega)
  have hF : ps c.1 c.2 ≠ 0 := ps_ne hp cv.nr cv.ne
  have i1 : ((c.1.toNat - 1 : Nat) : Int) = c.1 - 1 := by omega
  have low : ps c.1 (fLow c (tolT c n)) = 0 := by
    have h := low_of cv hT (P := ps c.1 c.2) (G := 0) hI.e1
    refine Classical.byContradiction fun z => ne_mul cv z hF ?_
    rw [h]; grind
  have hpw : ps c.1 c.2 ^ ((c.1 + 1) / 2).toNat = ps c.1 c.2 * ps c.1 c.2 ^ ((c.1 - 1) / 2).toNat := by
    rw [show ((c.1 + 1) / 2).toNat = ((c.1 - 1) / 2).toNat + 1 by omega]
    exact (Semiring.pow_succ _ _).trans (by grind)
  have high := high_of cv hT (P := 1) (G := ps c.1 n * ps c.1 c.2 ^ ((c.1 - 1) / 2).toNat) (by
    rw [hpw]
    have := hI.e2
    grind)
  have hev : PS.Ev c.1.toNat (c.1.toNat - 1) (ps c.1 (fHigh c (tolT c n))) = ps c.1 (brgt c.1 (matL c) n) * ps c.1 (tolT c n).2.2 := by
    rw [show ps c.1 (fHigh c (tolT c n)) = ps c.1 n * ps c.1 c.2 ^ ((c.1 - 1) / 2).toNat * ps c.1 (tolT c n).2.2 ^ c.1.toNat by rw [← high]; grind, PS.pow_fr pm, PS.Ev_fr (by omega), ev_tol cv hn]
  have hb : pmul c.1 (tolT c n).2.2 c.2 ≠ [] := pmul_ne pm hT.n3 cv.nr hT.ne cv.ne
  have l := least_is cv (t := pmul c.1 (pEvery c.1 (fLow c (tolT c n)) (c.1 - 1)) c.2) (s := pEvery c.1 (fHigh c (tolT c n)) (c.1 - 1)) (b := pmul c.1 (tolT c n).2.2 c.2) (trim_nrm hp _) (trim_nrm hp _) (trim_nrm hp _) hb
  refine is_uniq cv (is_via cv l hF (u' := 0) (v' := ps c.1 (brgt c.1 (matL c) n)) ?_ ?_) (tol_is cv _)
  · rw [ps_pmul, ← i1, ps_every hp, low]
    rw [show PS.Ev c.1.toNat (c.1.toNat - 1) (0 : PZ c.1) = 0 from PS.ext fun k => by rw [PS.zero_at]; exact PS.zero_at _]
    grind
  · rw [← i1, ps_every hp, hev, ps_pmul]
    grind
/-- a unit row is brought to a line of the table -/
theorem unit_brgt (cv : CvOk c) {low : Nat} (h : low < gs c) : brgt c.1 (matL c) (List.replicate low 0 ++ [1]) = lineL c low := by
  have hm := mat_ok cv
  have hn : (List.replicate low (0 : Int) ++ [1]).length ≤ gs c := by simp; omega
  have hr := hm.row h
  rw [mat_row h] at hr
  refine cf_ext (by rw [brgt_len, hm.ln, hr.1]) fun j => ?_
  by_cases hj : j < gs c
  · have e := brgt_en hm hn hj
    rw [sg_one h fun i hi ne => by
      rw [cf_app, List.length_replicate]
      split
      · rw [cf_rep, ZM.mk_zero]; grind
      · rw [cf_out (by simp; omega), ZM.mk_zero]; grind] at e
    rw [cf_app, List.length_replicate, if_neg (by omega), Nat.sub_self, show cf [1] 0 = 1 from rfl, ZM.mk_one, show (1 : ZM c.1) * en c.1 (matL c) low j = en c.1 (matL c) low j by grind] at e
    unfold en at e
    rw [mat_row h] at e
    have e' := ZM.exact e
    have b1 := brgt_bd cv.pos (A := matL c) (n := List.replicate low 0 ++ [1]) _ (List.mem_of_getElem? (cf_get (i := j) (by rw [brgt_len, hm.ln]; exact hj)))
    have b2 := hr.2 _ (List.mem_of_getElem? (cf_get (i := j) (by rw [hr.1]; exact hj)))
    rw [Int.emod_eq_of_lt b1.1 b1.2, Int.emod_eq_of_lt b2.1 b2.2] at e'
    exact e'
  · rw [cf_out (by rw [brgt_len, hm.ln]; omega), cf_out (by rw [hr.1]; omega)]
end
end Cw
set_option maxHeartbeats 4000000
namespace Cw
open Lean.Grind
/-! ### ranks by steps, and how many rows a table makes -/
def rkSwap (A : Mat) (i j : Nat) : Mat := (A.set i (row A j)).set j (row A i)
def rsub (p b : Int) (u v : List Int) : List Int := mk u.length fun i => (cf u i - b * cf v i) % p
def rkBy (p : Int) (A : Mat) (f c i : Nat) : Int := cf (row A i) c * pinv p (cf (row A f) c)
def rkClr (p : Int) (A : Mat) (f c : Nat) : Mat := (List.range A.length).map fun i => if f < i then rsub p (rkBy p A f c i) (row A i) (row A f) else row A i
def picks (A : Mat) (f c : Nat) : List Int := (rangeI f (A.length - f)).filter fun i => !decide (cf (row A i.toNat) c = 0)
def rkStep (p : Int) (s : Mat × Nat) (c : Nat) : Mat × Nat :=
  match picks s.1 s.2 c with
  | [] => s
  | k :: _ => (rkClr p (rkSwap s.1 s.2 k.toNat) s.2 c, s.2 + 1)
def rkAll (p : Int) (A : Mat) (n : Nat) : Mat × Nat := (List.range n).foldl (rkStep p) (A, 0)
def rank (p : Int) (A : Mat) : Nat := (rkAll p A A.length).2
/-- v is a sum of rows of A -/
def Sp (p : Int) (g : Nat) (A : Nat → Nat → ZM p) (v : Nat → ZM p) : Prop := ∃ n : Nat → ZM p, ∀ j, j < g → v j = sg g fun i => n i * A i j
section
variable {p : Int} {g : Nat} {A B : Mat}
theorem sp_sub {X Y : Nat → Nat → ZM p} (h : ∀ i, i < g → Sp p g X (Y i)) {v : Nat → ZM p} (s : Sp p g Y v) : Sp p g X v := by
  obtain ⟨n, hn⟩ := s
  let m : Nat → Nat → ZM p := fun i => if q : i < g then Classical.choose (h i q) else fun _ => 0
  have hm : ∀ i, i < g → ∀ j, j < g → Y i j = sg g fun k => m i k * X k j := fun i q j hj => by
    show _ = sg g fun k => (if q : i < g then Classical.choose (h i q) else fun _ => 0) k * X k j
    rw [dif_pos q]
    exact Classical.choose_spec (h i q) j hj
  refine ⟨fun k => sg g fun i => n i * m i k, fun j hj => ?_⟩
  rw [hn j hj, sg_congr fun i hi => by rw [hm i hi j hj, ← sg_mul], sg_swap]
  refine sg_congr fun k _ => ?_
  rw [← sg_mulr]
  exact sg_congr fun i _ => by grind
theorem sg_dl {f : Nat → ZM p} {i : Nat} (hi : i < g) : sg g (fun k => dl i k * f k) = f i := by
  rw [sg_one hi fun k _ ne => by unfold dl; rw [if_neg (fun z => ne z.symm)]; grind]
  unfold dl; rw [if_pos rfl]; grind
theorem sp_row {X : Nat → Nat → ZM p} {i : Nat} (hi : i < g) {v : Nat → ZM p} (e : ∀ j, j < g → v j = X i j) : Sp p g X v := ⟨dl i, fun j hj => by rw [sg_dl (f := fun k => X k j) hi, e j hj]⟩
theorem sp_two {X : Nat → Nat → ZM p} {i f : Nat} (hi : i < g) (hf : f < g) {b : ZM p} {v : Nat → ZM p} (e : ∀ j, j < g → v j = X i j + b * X f j) : Sp p g X v :=
  ⟨fun k => dl i k + b * dl f k, fun j hj => by
    rw [sg_congr (h := fun k => dl i k * X k j + b * (dl f k * X k j)) fun k _ => by grind, sg_add, sg_mul, sg_dl (f := fun k => X k j) hi, sg_dl (f := fun k => X k j) hf, e j hj]⟩
theorem row_set {A : Mat} {i k : Nat} {l : List Int} (hi : i < A.length) : row (A.set i l) k = if k = i then l else row A k := by
  unfold row
  rw [List.getD_eq_getElem?_getD, List.getD_eq_getElem?_getD, List.getElem?_set]
  by_cases q : i = k
  · subst q; rw [if_pos rfl, if_pos hi, if_pos rfl]; rfl
  · rw [if_neg q, if_neg (fun z => q z.symm)]
theorem swap_row {i j k : Nat} (hi : i < A.length) (hj : j < A.length) : row (rkSwap A i j) k = if k = j then row A i else if k = i then row A j else row A k := by
  unfold rkSwap
  rw [row_set (by rw [List.length_set]; exact hj), row_set hi]
theorem swap_ok (hA : MxOk p g A) {i j : Nat} (hi : i < g) (hj : j < g) : MxOk p g (rkSwap A i j) where
  ln := by unfold rkSwap; rw [List.length_set, List.length_set, hA.ln]
  rl := fun l hl => by
    rcases List.mem_or_eq_of_mem_set hl with h | h
    · rcases List.mem_or_eq_of_mem_set h with h | h
      · exact hA.rl _ h
      · rw [h]; exact (hA.row hj).1
    · rw [h]; exact (hA.row hi).1
  bd := fun l hl => by
    rcases List.mem_or_eq_of_mem_set hl with h | h
    · rcases List.mem_or_eq_of_mem_set h with h | h
      · exact hA.bd _ h
      · rw [h]; exact (hA.row hj).2
    · rw [h]; exact (hA.row hi).2
theorem clr_row {f c i : Nat} (hi : i < A.length) : row (rkClr p A f c) i = if f < i then rsub p (rkBy p A f c i) (row A i) (row A f) else row A i := by
  show ((List.range A.length).map _).getD i [] = _
  rw [List.getD_eq_getElem?_getD, List.getElem?_map, List.getElem?_range hi]
  rfl
theorem clr_ok (hp : 0 < p) (hA : MxOk p g A) {f c : Nat} : MxOk p g (rkClr p A f c) where
  ln := by unfold rkClr; rw [List.length_map, List.length_range, hA.ln]
  rl := fun l hl => by
    obtain ⟨i, hi, rfl⟩ := List.mem_map.mp hl
    have hi' : i < g := by rw [← hA.ln]; exact List.mem_range.mp hi
    show (if f < i then _ else _ : List Int).length = g
    split
    · unfold rsub; rw [mk_len]; exact (hA.row hi').1
    · exact (hA.row hi').1
  bd := fun l hl => by
    obtain ⟨i, hi, rfl⟩ := List.mem_map.mp hl
    have hi' : i < g := by rw [← hA.ln]; exact List.mem_range.mp hi
    show ∀ x ∈ (if f < i then _ else _ : List Int), 0 ≤ x ∧ x < p
    split
    · intro x hx
      unfold rsub mk at hx
      obtain ⟨k, _, rfl⟩ := List.mem_map.mp hx
      exact ⟨Int.emod_nonneg _ (by omega), Int.emod_lt_of_pos _ hp⟩
    · exact (hA.row hi').2
theorem clr_en (hA : MxOk p g A) {f c i j : Nat} (hi : i < g) (hj : j < g) : en p (rkClr p A f c) i j = if f < i then en p A i j - ZM.mk p (rkBy p A f c i) * en p A f j else en p A i j := by
  unfold en
  rw [clr_row (by rw [hA.ln]; exact hi)]
  by_cases q : f < i
  · rw [if_pos q, if_pos q]
    unfold rsub
    rw [cf_mk, if_pos (by rw [(hA.row hi).1]; exact hj), ZM.mod_mk, ← ZM.mk_sub, ← ZM.mk_mul]
  · rw [if_neg q, if_neg q]
theorem cell_ne (hA : MxOk p g A) {i j : Nat} (hi : i < g) (hj : j < g) : en p A i j = 0 ↔ cf (row A i) j = 0 := by
  obtain ⟨a, b⟩ := hA.cell hi hj
  unfold en
  rw [ZM.eq_zero, Int.emod_eq_of_lt a b]
structure Ech (p : Int) (g : Nat) (A : Mat) (f c : Nat) : Prop where
  fg : f ≤ g
  ex : ∃ piv : Nat → Nat, ∀ k, k < f → piv k < g ∧ en p A k (piv k) ≠ 0 ∧ ∀ i, k < i → i < g → en p A i (piv k) = 0
  zr : ∀ i j, f ≤ i → i < g → j < c → en p A i j = 0
theorem picks_nil {f c : Nat} (h : picks A f c = []) {i : Nat} (h1 : f ≤ i) (h2 : i < A.length) : cf (row A i) c = 0 := by
  unfold picks at h
  rw [List.filter_eq_nil_iff] at h
  have := h (i : Int) (List.mem_of_getElem? (i := i - f) (by rw [rangeI_get (by omega)]; congr 1; omega))
  simpa using this
theorem picks_cons {f c : Nat} {k : Int} {r : List Int} (hf : f ≤ A.length) (h : picks A f c = k :: r) : f ≤ k.toNat ∧ k.toNat < A.length ∧ cf (row A k.toNat) c ≠ 0 := by
  have m : k ∈ picks A f c := by rw [h]; exact List.mem_cons_self ..
  unfold picks at m
  obtain ⟨a, b⟩ := List.mem_filter.mp m
  have := rangeI_mem a
  refine ⟨by omega, by omega, by simpa using b⟩
theorem step_ok (pm : Pm p) (hA : MxOk p g A) {f c : Nat} (hc : c < g) (E : Ech p g A f c) : MxOk p g (rkStep p (A, f) c).1 ∧ Ech p g (rkStep p (A, f) c).1 (rkStep p (A, f) c).2 (c + 1) ∧ ∀ v, Sp p g (en p (rkStep p (A, f) c).1) v ↔ Sp p g (en p A) v := by
  have hp := pm.pos
  unfold rkStep
  cases hk : picks (A, f).1 (A, f).2 c with
  | nil =>
    refine ⟨hA, ⟨E.fg, E.ex, fun i j h1 h2 h3 => ?_⟩, fun v => Iff.rfl⟩
    by_cases q : j < c
    · exact E.zr i j h1 h2 q
    · have : j = c := by omega
      subst this
      exact (cell_ne hA h2 hc).mpr (picks_nil hk h1 (by rw [hA.ln]; exact h2))
  | cons k r =>
    obtain ⟨k1, k2, k3⟩ := picks_cons (by rw [hA.ln]; exact E.fg) hk
    rw [hA.ln] at k2
    dsimp only
    generalize k.toNat = k at k1 k2 k3 ⊢
    have hf : f < g := by omega
    have hfl : f < A.length := by rw [hA.ln]; exact hf
    have hkl : k < A.length := by rw [hA.ln]; exact k2
    show MxOk p g (rkClr p (rkSwap A f k) f c) ∧ Ech p g (rkClr p (rkSwap A f k) f c) (f + 1) (c + 1) ∧ ∀ v, Sp p g (en p (rkClr p (rkSwap A f k) f c)) v ↔ Sp p g (en p A) v
    have hB := swap_ok hA hf k2
    have eB : ∀ i j, en p (rkSwap A f k) i j = if i = k then en p A f j else if i = f then en p A k j else en p A i j := fun i j => by
      unfold en
      rw [swap_row hfl hkl]
      split
      · rfl
      · split <;> rfl
    have eBf : ∀ j, en p (rkSwap A f k) f j = en p A k j := fun j => by
      rw [eB]
      by_cases q : f = k
      · rw [if_pos q, q]
      · rw [if_neg q, if_pos rfl]
    have zB : ∀ i j, f ≤ i → i < g → j < c → en p (rkSwap A f k) i j = 0 := fun i j h1 h2 h3 => by
      rw [eB]
      split
      · exact E.zr f j (Nat.le_refl _) hf h3
      · split
        · exact E.zr k j k1 k2 h3
        · exact E.zr i j h1 h2 h3
    have sB : ∀ v, Sp p g (en p (rkSwap A f k)) v ↔ Sp p g (en p A) v := fun v => by
      constructor
      · refine sp_sub fun i hi => ?_
        by_cases q : i = k
        · exact sp_row hf fun j _ => by rw [eB, if_pos q]
        · by_cases q2 : i = f
          · exact sp_row k2 fun j _ => by rw [eB, if_neg q, if_pos q2]
          · exact sp_row hi fun j _ => by rw [eB, if_neg q, if_neg q2]
      · refine sp_sub fun i hi => ?_
        by_cases q : i = k
        · exact sp_row hf fun j _ => by rw [eBf, q]
        · by_cases q2 : i = f
          · exact sp_row k2 fun j _ => by rw [eB, if_pos rfl, q2]
          · exact sp_row hi fun j _ => by rw [eB, if_neg q, if_neg q2]
    have nz : en p (rkSwap A f k) f c ≠ 0 := by
      rw [eBf]
      exact fun z => k3 ((cell_ne hA k2 hc).mp z)
    have nzc : cf (row (rkSwap A f k) f) c % p ≠ 0 := fun z => nz (ZM.eq_zero.mpr z)
    obtain ⟨piv, hpiv⟩ := E.ex
    generalize rkSwap A f k = B at hB eB eBf zB sB nz nzc
    have hC := clr_ok (f := f) (c := c) hp hB
    have eC : ∀ i j, i < g → j < g → en p (rkClr p B f c) i j = if f < i then en p B i j - ZM.mk p (rkBy p B f c i) * en p B f j else en p B i j := fun i j h1 h2 => clr_en hB h1 h2
    have by1 : ∀ i, ZM.mk p (rkBy p B f c i) * en p B f c = en p B i c := fun i => by
      have h := (pinv_mem pm nzc).2.2
      have h2 : ZM.mk p (pinv p (cf (row B f) c)) * ZM.mk p (cf (row B f) c) = 1 := by
        rw [ZM.mk_mul, ← ZM.mk_one]
        exact ZM.sound (by rw [h]; rcases pm with q | q | q | q | q <;> rw [q] <;> rfl)
      unfold rkBy en
      rw [← ZM.mk_mul]
      grind
    refine ⟨hC, ⟨hf, ⟨fun i => if i = f then c else piv i, fun i hi => ?_⟩, fun i j h1 h2 h3 => ?_⟩, fun v => Iff.trans ?_ (sB v)⟩
    · dsimp only
      by_cases q : i = f
      · rw [if_pos q]
        subst q
        refine ⟨hc, ?_, fun m h1 h2 => ?_⟩
        · rw [eC _ _ hf hc, if_neg (Nat.lt_irrefl _)]; exact nz
        · rw [eC _ _ h2 hc, if_pos h1, by1]; grind
      · rw [if_neg q]
        obtain ⟨a, b, d⟩ := hpiv i (by omega)
        have zf : ∀ m, i < m → m < g → en p B m (piv i) = 0 := fun m h1 h2 => by
          rw [eB]
          split
          · exact d f (by omega) hf
          · split
            · exact d k (by omega) k2
            · exact d m h1 h2
        refine ⟨a, ?_, fun m h1 h2 => ?_⟩
        · rw [eC _ _ (by omega) a, if_neg (by omega), eB, if_neg (by omega), if_neg q]; exact b
        · rw [eC _ _ h2 a]
          split
          · rw [zf m h1 h2, zf f (by omega) hf]; grind
          · exact zf m h1 h2
    · have hj : j < g := by omega
      rw [eC _ _ h2 hj, if_pos (by omega)]
      by_cases q : j < c
      · rw [zB i j (by omega) h2 q, zB f j (Nat.le_refl _) hf q]; grind
      · have : j = c := by omega
        subst this
        rw [by1]; grind
    · constructor
      · refine sp_sub fun i hi => ?_
        by_cases q : f < i
        · exact sp_two hi hf (b := -ZM.mk p (rkBy p B f c i)) fun j hj => by rw [eC _ _ hi hj, if_pos q]; grind
        · exact sp_row hi fun j hj => by rw [eC _ _ hi hj, if_neg q]
      · refine sp_sub fun i hi => ?_
        by_cases q : f < i
        · exact sp_two hi hf (b := ZM.mk p (rkBy p B f c i)) fun j hj => by
            rw [eC _ _ hi hj, if_pos q, eC _ _ hf hj, if_neg (Nat.lt_irrefl _)]; grind
        · exact sp_row hi fun j hj => by rw [eC _ _ hi hj, if_neg q]
theorem all_ok (pm : Pm p) (hA : MxOk p g A) : ∀ n : Nat, n ≤ g → MxOk p g (rkAll p A n).1 ∧ Ech p g (rkAll p A n).1 (rkAll p A n).2 n ∧ ∀ v, Sp p g (en p (rkAll p A n).1) v ↔ Sp p g (en p A) v
  | 0, _ => ⟨hA, ⟨Nat.zero_le _, ⟨fun _ => 0, fun k h => absurd h (Nat.not_lt_zero _)⟩, fun _ _ _ _ h => absurd h (Nat.not_lt_zero _)⟩, fun _ => Iff.rfl⟩
  | n + 1, h => by
    obtain ⟨a, b, d⟩ := all_ok pm hA n (by omega)
    have e : rkAll p A (n + 1) = rkStep p (rkAll p A n) n := by
      unfold rkAll
      rw [List.range_succ, List.foldl_append]; rfl
    rw [e]
    obtain ⟨x, y, z⟩ := step_ok pm a (c := n) (by omega) b
    exact ⟨x, y, fun v => (z v).trans (d v)⟩
end
end Cw
set_option maxHeartbeats 4000000
namespace Cw
open Lean.Grind
/-! ### how many rows a table makes -/
def whole (p : Int) : Nat → List (List Int)
  | 0 => [[]]
  | n + 1 => (whole p n).flatMap fun v => (rangeI 0 p.toNat).map fun x => v ++ [x]
def VOk (p : Int) (n : Nat) (v : List Int) : Prop := v.length = n ∧ ∀ x ∈ v, 0 ≤ x ∧ x < p
section
variable {p : Int} {g : Nat} {A B : Mat}
theorem rangeI_in {n : Nat} {x : Int} (h0 : 0 ≤ x) (h : x < n) : x ∈ rangeI 0 n :=
  List.mem_of_getElem? (i := x.toNat) (by rw [rangeI_get (by omega)]; congr 1; omega)
theorem rangeI_nd {lo : Int} {n : Nat} : (rangeI lo n).Nodup := by
  unfold rangeI
  rw [List.Nodup, List.pairwise_map]
  exact List.nodup_range.imp fun h => by omega
theorem whole_mem (hp : 0 < p) : ∀ (n : Nat) (v : List Int), v ∈ whole p n ↔ VOk p n v
  | 0, v => by
    unfold whole VOk
    rw [List.mem_singleton]
    constructor
    · rintro rfl; exact ⟨rfl, fun x h => absurd h List.not_mem_nil⟩
    · rintro ⟨h, _⟩; exact List.length_eq_zero_iff.mp h
  | n + 1, v => by
    unfold whole
    rw [List.mem_flatMap]
    constructor
    · rintro ⟨u, hu, hv⟩
      obtain ⟨x, hx, rfl⟩ := List.mem_map.mp hv
      obtain ⟨a, b⟩ := (whole_mem hp n u).mp hu
      have := rangeI_mem hx
      refine ⟨by simp [a], fun y hy => ?_⟩
      rcases List.mem_append.mp hy with h | h
      · exact b y h
      · rw [List.mem_singleton.mp h]; omega
    · rintro ⟨a, b⟩
      have ne : v ≠ [] := fun z => by rw [z] at a; cases a
      have e := List.dropLast_concat_getLast ne
      refine ⟨v.dropLast, (whole_mem hp n _).mpr ⟨by rw [List.length_dropLast, a]; rfl, fun x hx => b x ((List.dropLast_sublist v).subset hx)⟩, List.mem_map.mpr ⟨v.getLast ne, ?_, e⟩⟩
      have := b _ (List.getLast_mem ne)
      exact rangeI_in this.1 (by omega)
theorem whole_nd : ∀ n : Nat, (whole p n).Nodup
  | 0 => by unfold whole; simp
  | n + 1 => by
    unfold whole
    rw [List.Nodup, List.pairwise_flatMap]
    refine ⟨fun v _ => ?_, (whole_nd n).imp fun h x hx y hy e => ?_⟩
    · rw [List.pairwise_map]
      refine (rangeI_nd (n := p.toNat)).imp fun h e => h ?_
      have := List.append_cancel_left e
      simpa using this
    · obtain ⟨a, _, rfl⟩ := List.mem_map.mp hx
      obtain ⟨b, _, rfl⟩ := List.mem_map.mp hy
      exact h (List.append_inj' e rfl).1
theorem flat_len {α β : Type} {f : α → List β} {k : Nat} : ∀ {l : List α}, (∀ a ∈ l, (f a).length = k) → (l.flatMap f).length = l.length * k
  | [], _ => by simp
  | a :: l, h => by
    rw [List.flatMap_cons, List.length_append, flat_len fun b hb => h b (List.mem_cons_of_mem _ hb), h a (List.mem_cons_self ..), List.length_cons, Nat.succ_mul, Nat.add_comm]
theorem whole_len : ∀ n : Nat, (whole p n).length = p.toNat ^ n
  | 0 => rfl
  | n + 1 => by
    unfold whole
    rw [flat_len (k := p.toNat) fun v _ => by rw [List.length_map, rangeI_len], whole_len n, Nat.pow_succ]
theorem nodup_len {α : Type} {l m : List α} (hl : l.Nodup) (hm : m.Nodup) (h : ∀ a, a ∈ l ↔ a ∈ m) : l.length = m.length :=
  ((List.perm_ext_iff_of_nodup hl hm).mpr h).length_eq
/-- a number for each -/
theorem rep_ex (hp : 0 < p) (x : ZM p) : ∃ a : Int, (0 ≤ a ∧ a < p) ∧ ZM.mk p a = x := by
  induction x using ZM.ind with
  | h a => exact ⟨a % p, ⟨Int.emod_nonneg _ (by omega), Int.emod_lt_of_pos _ hp⟩, ZM.mod_mk⟩
theorem reps_ex (hp : 0 < p) (n : Nat) (u : Nat → ZM p) : ∃ l : List Int, VOk p n l ∧ ∀ i, i < n → ZM.mk p (cf l i) = u i := by
  let a : Nat → Int := fun i => Classical.choose (rep_ex hp (u i))
  have ha : ∀ i, (0 ≤ a i ∧ a i < p) ∧ ZM.mk p (a i) = u i := fun i => Classical.choose_spec (rep_ex hp (u i))
  refine ⟨mk n a, ⟨mk_len, fun x hx => ?_⟩, fun i hi => by rw [cf_mk, if_pos hi, (ha i).2]⟩
  obtain ⟨i, _, rfl⟩ := List.mem_map.mp hx
  exact (ha i).1
theorem vok_ext (hp : 0 < p) {u v : List Int} (hu : VOk p g u) (hv : VOk p g v) (h : ∀ j, j < g → ZM.mk p (cf u j) = ZM.mk p (cf v j)) : u = v :=
  cf_ext (hu.1.trans hv.1.symm) fun j => by
    by_cases hj : j < g
    · have e := ZM.exact (h j hj)
      have b1 := hu.2 _ (List.mem_of_getElem? (cf_get (i := j) (by rw [hu.1]; exact hj)))
      have b2 := hv.2 _ (List.mem_of_getElem? (cf_get (i := j) (by rw [hv.1]; exact hj)))
      rw [Int.emod_eq_of_lt b1.1 b1.2, Int.emod_eq_of_lt b2.1 b2.2] at e
      exact e
    · rw [cf_out (by rw [hu.1]; omega), cf_out (by rw [hv.1]; omega)]
theorem brgt_vok (hp : 0 < p) (hA : MxOk p g A) {n : List Int} : VOk p g (brgt p A n) := ⟨by rw [brgt_len, hA.ln], brgt_bd hp⟩
/-- what a list of rows holds, if it holds all that B makes -/
def Made (p : Int) (g : Nat) (B : Mat) (S : List (List Int)) : Prop := ∀ v, v ∈ S ↔ VOk p g v ∧ Sp p g (en p B) fun j => ZM.mk p (cf v j)
theorem made_whole (hp : 0 < p) : Made p g (mxOne g) (whole p g) := fun v => by
  rw [whole_mem hp]
  refine ⟨fun h => ⟨h, ⟨fun i => ZM.mk p (cf v i), fun j hj => ?_⟩⟩, fun h => h.1⟩
  rw [sg_congr (h := fun i => ZM.mk p (cf v i) * dl i j) fun i hi => by rw [one_en i j hi hj], sg_one hj fun i _ ne => by unfold dl; rw [if_neg ne]; grind]
  unfold dl; rw [if_pos rfl]; grind
theorem made_next (hp : 0 < p) (hA : MxOk p g A) (hB : MxOk p g B) {S T : List (List Int)} (h : Made p g B S) (k : ∀ v, v ∈ T ↔ v ∈ S.map (brgt p A)) : Made p g (B.map (brgt p A)) T := fun v => by
  rw [k, List.mem_map]
  constructor
  · rintro ⟨u, hu, rfl⟩
    obtain ⟨hv, n, hn⟩ := (h u).mp hu
    refine ⟨brgt_vok hp hA, n, fun j hj => ?_⟩
    show ZM.mk p (cf (brgt p A u) j) = _
    rw [brgt_en hA (Nat.le_of_eq hv.1) hj, sg_congr (h := fun k => sg g fun i => n i * en p B i k * en p A k j) fun k hk => by rw [show ZM.mk p (cf u k) = sg g (fun i => n i * en p B i k) from hn k hk, ← sg_mulr], sg_swap]
    refine sg_congr fun i hi => ?_
    rw [brs_en hA hB i j hi hj]
    show _ = n i * sg g fun k => en p B i k * en p A k j
    rw [← sg_mul]
    exact sg_congr fun k _ => by grind
  · rintro ⟨hv, n, hn⟩
    obtain ⟨u, hu, eu⟩ := reps_ex hp g fun k => sg g fun i => n i * en p B i k
    refine ⟨u, (h u).mpr ⟨hu, n, eu⟩, vok_ext hp (brgt_vok hp hA) hv fun j hj => ?_⟩
    rw [brgt_en hA (Nat.le_of_eq hu.1) hj, show ZM.mk p (cf v j) = _ from hn j hj, sg_congr (h := fun k => sg g fun i => n i * en p B i k * en p A k j) fun k hk => by rw [eu k hk, ← sg_mulr], sg_swap]
    refine sg_congr fun i hi => ?_
    rw [brs_en hA hB i j hi hj]
    show _ = n i * sg g fun k => en p B i k * en p A k j
    rw [← sg_mul]
    exact sg_congr fun k _ => by grind
theorem inj_ech (pm : Pm p) {r : Nat} (hA : MxOk p g A) (E : Ech p g A r g) {n m : List Int} (hn : VOk p r n) (hm : VOk p r m) (h : brgt p A n = brgt p A m) : n = m := by
  have hp := pm.pos
  obtain ⟨piv, hpiv⟩ := E.ex
  have key : ∀ k, k < r → (∀ i, i < k → ZM.mk p (cf n i) = ZM.mk p (cf m i)) → ZM.mk p (cf n k) = ZM.mk p (cf m k) := fun k hk ih => by
    obtain ⟨a, b, d⟩ := hpiv k hk
    have hkg : k < g := Nat.lt_of_lt_of_le hk E.fg
    have e1 := brgt_en hA (n := n) (by rw [hn.1]; exact E.fg) a
    have e2 := brgt_en hA (n := m) (by rw [hm.1]; exact E.fg) a
    rw [h, e2] at e1
    have z : sg g (fun i => (ZM.mk p (cf n i) - ZM.mk p (cf m i)) * en p A i (piv k)) = 0 := by
      rw [sg_congr (h := fun i => ZM.mk p (cf n i) * en p A i (piv k) + (-1) * (ZM.mk p (cf m i) * en p A i (piv k))) fun i _ => by grind, sg_add, sg_mul, ← e1]
      grind
    rw [sg_one hkg fun i hi ne => by
      by_cases q : i < k
      · rw [ih i q]; grind
      · rw [d i (by omega) hi]; grind] at z
    rcases ZM.dom pm z with q | q
    · grind
    · exact absurd q b
  refine vok_ext hp hn hm fun j hj => ?_
  induction j using Nat.strongRecOn with
  | ind j ih => exact key j hj fun i hi => ih i hi (by omega)
theorem made_count (pm : Pm p) (hA : MxOk p g A) {S : List (List Int)} (nd : S.Nodup) (h : Made p g A S) : S.length = p.toNat ^ rank p A := by
  have hp := pm.pos
  obtain ⟨hR, E, hs⟩ := all_ok pm hA g (Nat.le_refl _)
  unfold rank
  rw [hA.ln]
  generalize (rkAll p A g).1 = R at hR E hs
  generalize (rkAll p A g).2 = r at E
  rw [← whole_len]
  refine (nodup_len (m := (whole p r).map (brgt p R)) nd ?_ fun v => ?_).trans (List.length_map ..)
  · rw [List.Nodup, List.pairwise_map]
    exact List.Pairwise.imp_of_mem (fun {a b} ha hb ne e => ne (inj_ech pm hR E ((whole_mem hp _ _).mp ha) ((whole_mem hp _ _).mp hb) e)) (whole_nd r)
  · rw [h v, List.mem_map]
    constructor
    · rintro ⟨hv, s⟩
      obtain ⟨n, hn⟩ := (hs _).mpr s
      obtain ⟨l, hl, el⟩ := reps_ex hp r n
      refine ⟨l, (whole_mem hp _ _).mpr hl, vok_ext hp (brgt_vok hp hR) hv fun j hj => ?_⟩
      rw [brgt_en hR (by rw [hl.1]; exact E.fg) hj, show ZM.mk p (cf v j) = _ from hn j hj]
      refine sg_congr fun k hk => ?_
      by_cases q : k < r
      · rw [el k q]
      · rw [E.zr k j (by omega) hk hj]; grind
    · rintro ⟨l, hl, rfl⟩
      have hl' := (whole_mem hp _ _).mp hl
      exact ⟨brgt_vok hp hR, (hs _).mp ⟨fun k => ZM.mk p (cf l k), fun j hj => brgt_en hR (by rw [hl'.1]; exact E.fg) hj⟩⟩
theorem rank_le (pm : Pm p) (hA : MxOk p g A) : rank p A ≤ g := by
  have := (all_ok pm hA g (Nat.le_refl _)).2.1.fg
  unfold rank
  rw [hA.ln]; exact this
end
end Cw
set_option maxHeartbeats 4000000
namespace Cw
open PySem PySem.Spec PyProof.Rows L2
abbrev mxD (A : Mat) : D := lsD inD A
def p_lines_times (ds : List D) (d : D) : Prop := ∃ (p : Int) (g : Nat) (A B : Mat), ds = [.int p, mxD A, mxD B] ∧ Pm p ∧ g ≤ 3 ∧ MxOk p g A ∧ MxOk p g B ∧ d = mxD (mxMul p A B)
def p_lines_raised (ds : List D) (d : D) : Prop := ∃ (p : Int) (g : Nat) (A : Mat) (n : Int), ds = [.int p, mxD A, .int n] ∧ Pm p ∧ g ≤ 3 ∧ MxOk p g A ∧ 0 ≤ n ∧ n ≤ 10 ^ 30 ∧ d = mxD (mxRaised p A n)
def p_rank_of (ds : List D) (d : D) : Prop := ∃ (p : Int) (g : Nat) (A : Mat), ds = [.int p, mxD A] ∧ Pm p ∧ g ≤ 3 ∧ MxOk p g A ∧ d = .int (rank p A)
def p_matrix_of (K : Fg) (ds : List D) (es : List D) : Prop := ∃ c, ds = [cvD K c] ∧ CvOk c ∧ es = (matL c).map inD
def p_descent_matrix (K : Fg) (ds : List D) (es : List D) : Prop := p_matrix_of K ds es
def p_standing (K : Fg) (ds : List D) (d : D) : Prop := ∃ c, ds = [cvD K c] ∧ CvOk c ∧ d = .int (rank c.1 (mxRaised c.1 (matL c) (gs c)))
theorem foldl_app {α β : Type} {f : α → β} : ∀ (l : List α) (x : List β), l.foldl (fun X a => X ++ [f a]) x = x ++ l.map f
  | [], x => by simp
  | a :: l, x => by rw [List.foldl_cons, foldl_app l]; simp
theorem dig (p : Int) (pm : Pm p) {x : Int} (h : 0 ≤ x ∧ x < p) : -(2 ^ 64) < x ∧ x < 2 ^ 64 := by have := pm.le; omega
section
variable {K : Fg} {G : Ctx} {te ta tb : TE} {d : D}
theorem gsub_ok {i k : Nat} {xs : List D} {tj : TE} {j : Int} (hi : G[i]? = some (.own xs)) (hk : ixN xs.length j = some k) (hj : EvD K tj G (.int j)) {F0 H0 F H : Hp} {σ : L2.St} {v : V} (s : SOk K F0 H0 F H σ G) (r : Rep K F d v) (Q : L2.St → Hp → Prop)
    (q : ∀ F' H', Same F F' → SOk K F0 H0 F' H' σ (G.set i (.own (xs.set k d))) → Q σ H') : gSub (tVar i) tj rSetL v σ H Q := by
  obtain ⟨p, vs, e, h1, h2, h3, h4⟩ := s.own hi
  refine ⟨.ref p, e, hj F0 H0 F H σ s _ fun z F2 H2 t2 r2 => ?_⟩
  cases r2
  exact ⟨p, vs, j, k, rfl, rfl, t2.hh _ _ h1, by rw [h4.len]; exact hk, q F2 _ t2.ff ((s.step t2).mutOwn hi e ((Reps.mono t2.ff _ _ h4).set k (Rep.mono t2.ff _ _ r)))⟩
/-- xs[a], xs[b] = x, y -/
theorem st_swap {i ka kb : Nat} {xs : List D} {x y : D} {ja jb : Int} {t1 t2 ti tj : TE} (hi : G[i]? = some (.own xs)) (hx : EvD K t1 G x) (hy : EvD K t2 G y) (hka : ixN xs.length ja = some ka) (h1 : EvD K ti G (.int ja)) (hkb : ixN xs.length jb = some kb)
    (h2 : EvD K tj (G.set i (.own (xs.set ka x))) (.int jb)) : StD K (tAsg (tTup (tCons t1 (tCons t2 tNil))) (gTup K 2 (gCons (gSub (tVar i) ti rSetL) (gCons (gSub (tVar i) tj rSetL) gNil)))) G (.nx (G.set i (.own ((xs.set ka x).set kb y)))) := fun F0 H0 F H σ E s q =>
  ev_tup (ea2 hx hy) (by show 2 ≤ sizeLine; decide) F0 H0 F H σ s _ fun v F1 H1 t1 r1 => by
    obtain ⟨p, vs, rfl, g1, g2⟩ := r1
    obtain ⟨u, us, rfl, r1, g3⟩ := g2
    obtain ⟨u2, us2, rfl, r2, g4⟩ := g3
    cases g4
    have hl : i < G.length := (List.getElem?_eq_some_iff.mp hi).1
    refine ⟨p, _, rfl, sqT_mono t1.fh g1, rfl, u, [u2], rfl, gsub_ok hi hka h1 (s.step t1) r1 _ fun F2 H2 f2 s2 => ⟨u2, [], rfl, gsub_ok (by rw [List.getElem?_set_self hl]) (by rw [List.length_set]; exact hkb) h2 s2 (Rep.mono f2 _ _ r2) _ fun F3 H3 f3 s3 => ⟨rfl, ?_⟩⟩⟩
    rw [List.set_set] at s3
    exact q σ F3 H3 s3 ((t1.ff.trans f2).trans f3)
end
section
variable {p : Int} {g : Nat}
theorem rangeI_succ {lo : Int} {n : Nat} : rangeI lo (n + 1) = rangeI lo n ++ [lo + (n : Int)] := by
  unfold rangeI
  rw [List.range_succ, List.map_append]; rfl
def rkSet (p : Int) (f c : Nat) (back : Int) (X : Mat) (i : Int) : Mat := X.set i.toNat (rsub p (cf (row X i.toNat) c * back) (row X i.toNat) (row X f))
theorem set_inv {B : Mat} {f c : Nat} {back : Int} : ∀ t : Nat, f + 1 + t ≤ B.length → ((rangeI ((f : Int) + 1) t).foldl (rkSet p f c back) B).length = B.length ∧
    ∀ i, i < B.length → row ((rangeI ((f : Int) + 1) t).foldl (rkSet p f c back) B) i = if f < i ∧ i < f + 1 + t then rsub p (cf (row B i) c * back) (row B i) (row B f) else row B i
  | 0, _ => ⟨rfl, fun i _ => by rw [if_neg (by omega)]; rfl⟩
  | t + 1, h => by
    obtain ⟨a, b⟩ := set_inv (B := B) (f := f) (c := c) (back := back) t (by omega)
    rw [rangeI_succ, List.foldl_append]
    show (rkSet p f c back _ _).length = _ ∧ ∀ i, i < B.length → row (rkSet p f c back _ _) i = _
    generalize (rangeI ((f : Int) + 1) t).foldl (rkSet p f c back) B = X at a b
    have e : ((f : Int) + 1 + (t : Int)).toNat = f + 1 + t := by omega
    unfold rkSet
    rw [e]
    refine ⟨by rw [List.length_set, a], fun i hi => ?_⟩
    rw [row_set (by rw [a]; omega)]
    by_cases q : i = f + 1 + t
    · subst q
      rw [if_pos rfl, if_pos (by omega), b _ hi, if_neg (by omega), b f (by omega), if_neg (by omega)]
    · rw [if_neg q, b i hi]
      by_cases z : f < i ∧ i < f + 1 + t
      · rw [if_pos z, if_pos (by omega)]
      · rw [if_neg z, if_neg (by omega)]
theorem clr_fold {B : Mat} {f c : Nat} (hf : f < B.length) : (rangeI ((f : Int) + 1) (B.length - (f + 1))).foldl (rkSet p f c (pinv p (cf (row B f) c))) B = rkClr p B f c := by
  obtain ⟨a, b⟩ := set_inv (p := p) (B := B) (f := f) (c := c) (back := pinv p (cf (row B f) c)) (B.length - (f + 1)) (by omega)
  refine rows_ext (by rw [a]; unfold rkClr; rw [List.length_map, List.length_range]) fun i hi => ?_
  rw [a] at hi
  rw [b i hi, clr_row hi]
  by_cases q : f < i
  · rw [if_pos (by omega), if_pos q]; rfl
  · rw [if_neg (by omega), if_neg q]
theorem zip_rsub {u v : List Int} {b : Int} (h : u.length = v.length) : (u.zip v).map (fun q => (q.1 - b % p * q.2) % p) = rsub p b u v := by
  have e : ∀ x y : Int, (x - b % p * y) % p = (x - b * y) % p := fun x y => by
    rw [Int.sub_emod, Int.mul_emod, Int.emod_emod_of_dvd b (Int.dvd_refl p), ← Int.mul_emod, ← Int.sub_emod]
  apply List.ext_getElem?
  intro i
  unfold rsub mk
  rw [List.getElem?_map, List.getElem?_map]
  by_cases hi : i < u.length
  · have hv : i < v.length := by omega
    rw [List.getElem?_range hi, List.getElem?_zip_eq_some (z := (u[i], v[i])) |>.mpr ⟨List.getElem?_eq_getElem hi, List.getElem?_eq_getElem hv⟩]
    have c1 := cf_get hi
    have c2 := cf_get hv
    rw [List.getElem?_eq_getElem hi] at c1
    rw [List.getElem?_eq_getElem hv] at c2
    show some ((u[i] - b % p * v[i]) % p) = some ((cf u i - b * cf v i) % p)
    rw [e, Option.some.inj c1, Option.some.inj c2]
  · rw [List.getElem?_eq_none (l := u.zip v) (by rw [List.length_zip]; omega), List.getElem?_eq_none (l := List.range u.length) (by rw [List.length_range]; omega)]
    rfl
theorem rank_fold {A : Mat} {n : Nat} : (rangeI 0 n).foldl (fun s c => rkStep p s c.toNat) (A, 0) = rkAll p A n := by
  unfold rkAll rangeI
  rw [List.foldl_map]
  congr 1
  funext s c
  rw [Int.zero_add, Int.toNat_natCast]
end
theorem at_row {X : Mat} {j : Int} (h0 : 0 ≤ j) (h : j < X.length) : atI (X.map inD) j = some (inD (row X j.toNat)) := by
  obtain ⟨k, rfl⟩ : ∃ k : Nat, j = k := ⟨j.toNat, by omega⟩
  apply atI_nat
  have hn : k < X.length := by omega
  rw [List.getElem?_map, Int.toNat_natCast, List.getElem?_eq_getElem hn]
  unfold row
  rw [List.getD_eq_getElem?_getD, List.getElem?_eq_getElem hn]
  rfl
theorem like_mx : Like mxD 2 := like_lst like_ints
theorem rangeI_pre {lo : Int} {n : Nat} {pre post : List Int} {x : Int} (e : rangeI lo n = pre ++ x :: post) : pre = rangeI lo pre.length ∧ x = lo + (pre.length : Int) ∧ pre.length < n := by
  have hl := congrArg List.length e
  rw [rangeI_len, List.length_append, List.length_cons] at hl
  have h1 : pre = rangeI lo pre.length := by
    have := congrArg (List.take pre.length) e
    rw [List.take_left' rfl] at this
    rw [← this]
    unfold rangeI
    rw [← List.map_take, List.take_range, Nat.min_eq_left (by omega)]
    simp
  refine ⟨h1, ?_, by omega⟩
  have := congrArg (fun l : List Int => l[pre.length]?) e
  simp only [List.getElem?_append_right (Nat.le_refl _), Nat.sub_self, List.getElem?_cons_zero] at this
  rw [rangeI_get (by omega)] at this
  exact (Option.some.inj this).symm
end Cw
set_option maxHeartbeats 4000000
namespace Cw
open PySem PySem.Spec PyProof.Rows L2
def p__law_brought (ds : List D) (d : D) : Prop := ∃ (c : Cur) (g : Nat) (A : Mat) (n : List Int), ds = [toldD c, mxD A, inD n] ∧ Pm c.1 ∧ g ≤ 3 ∧ MxOk c.1 g A ∧ n.length ≤ 3 ∧ (∀ x ∈ n, 0 ≤ x ∧ x < c.1) ∧ d = inD (brgt c.1 A n)
def p__law_matrix (ds : List D) (d : D) : Prop := ∃ c, ds = [toldD c] ∧ CvOk c ∧ d = mxD (matL c)
def p__law_told (K : Fg) (ds : List D) (d : D) : Prop := ∃ c n, ds = [toldD c, inD n] ∧ CvOk c ∧ n.length ≤ 61 ∧ d = fnD K c (tolT c n)
end Cw
set_option maxHeartbeats 4000000
namespace Cw
open PySem PySem.Spec PyProof.Rows L2
/-! ### the defs walked by hand, as functions with a condition -/
/-- fuel of a while -/
abbrev WF : Nat := 10 ^ 40
instance (p : Int) : Decidable (Pm p) := by unfold Pm; infer_instance
instance (p : Int) (l : List Int) : Decidable (Nrm p l) := by unfold Nrm; infer_instance
instance (l : List Int) : Decidable (Sm l) := by unfold Sm; infer_instance
instance (i j : Int) : Decidable (CMul i j) := by unfold CMul; infer_instance
instance (i j : Int) : Decidable (CDiv i j) := by unfold CDiv; infer_instance
instance (i j : Int) : Decidable (CPowW i j) := by unfold CPowW; infer_instance
def m_inverse (p n : Int) : Option Int := gd (Pm p ∧ n % p ≠ 0 ∧ (-(2 ^ 64) < n ∧ n < 2 ^ 64)) (pinv p n)
theorem q_inverse {p n r : Int} (h : m_inverse p n = some r) : p_inverse [.int p, .int n] (.int r) := by
  obtain ⟨⟨a, b, c⟩, e⟩ := gd_ok h
  exact ⟨p, n, rfl, a, b, c, by rw [e]⟩
def m_trimmed (p : Int) (l : List Int) : Option (List Int) := gd (0 < p ∧ l.length ≤ 2 * LM) (trim p l)
theorem q_trimmed {p : Int} {l r : List Int} (h : m_trimmed p l = some r) : p_trimmed [.int p, inD l] (inD r) := by
  obtain ⟨⟨a, b⟩, e⟩ := gd_ok h
  exact ⟨p, l, rfl, a, b, by rw [e]⟩
def m_added (p : Int) (a b : List Int) : Option (List Int) := gd (0 < p ∧ a.length ≤ LM ∧ b.length ≤ LM) (padd p a b)
theorem q_added {p : Int} {l m r : List Int} (h : m_added p l m = some r) : p_added [.int p, inD l, inD m] (inD r) := by
  obtain ⟨⟨a, b, c⟩, e⟩ := gd_ok h
  exact ⟨p, l, m, rfl, a, b, c, by rw [e]⟩
def m_lessened (p : Int) (a b : List Int) : Option (List Int) := gd (0 < p ∧ a.length ≤ LM ∧ b.length ≤ LM) (psub p a b)
theorem q_lessened {p : Int} {l m r : List Int} (h : m_lessened p l m = some r) : p_lessened [.int p, inD l, inD m] (inD r) := by
  obtain ⟨⟨a, b, c⟩, e⟩ := gd_ok h
  exact ⟨p, l, m, rfl, a, b, c, by rw [e]⟩
def m_negated (p : Int) (a : List Int) : Option (List Int) := gd (0 < p ∧ a.length ≤ LM) (pneg p a)
theorem q_negated {p : Int} {l r : List Int} (h : m_negated p l = some r) : p_negated [.int p, inD l] (inD r) := by
  obtain ⟨⟨a, b⟩, e⟩ := gd_ok h
  exact ⟨p, l, rfl, a, b, by rw [e]⟩
def m_scaled (p : Int) (a : List Int) (n : Int) : Option (List Int) := gd (0 < p ∧ a.length ≤ LM ∧ (-(2 ^ 64) < n ∧ n < 2 ^ 64)) (pscl p a n)
theorem q_scaled {p : Int} {l : List Int} {n : Int} {r : List Int} (h : m_scaled p l n = some r) : p_scaled [.int p, inD l, .int n] (inD r) := by
  obtain ⟨⟨a, b, c⟩, e⟩ := gd_ok h
  exact ⟨p, l, n, rfl, a, b, c, by rw [e]⟩
def m_multiplied (p : Int) (a b : List Int) : Option (List Int) := gd (0 < p ∧ a.length ≤ LM ∧ b.length ≤ LM ∧ Sm a) (pmul p a b)
theorem q_multiplied {p : Int} {l m r : List Int} (h : m_multiplied p l m = some r) : p_multiplied [.int p, inD l, inD m] (inD r) := by
  obtain ⟨⟨a, b, c, d⟩, e⟩ := gd_ok h
  exact ⟨p, l, m, rfl, a, b, c, d, by rw [e]⟩
def m_power_of (p : Int) (a : List Int) (n : Int) : Option (List Int) := gd (0 < p ∧ p ≤ 13 ∧ 0 ≤ n ∧ n ≤ 1000 ∧ n.toNat * a.length ≤ 500000 ∧ a.length ≤ 500000) (ppow p a n.toNat)
theorem q_power_of {p : Int} {l : List Int} {n : Int} {r : List Int} (h : m_power_of p l n = some r) : p_power_of [.int p, inD l, .int n] (inD r) := by
  obtain ⟨⟨a, b, c, d, f, g⟩, e⟩ := gd_ok h
  exact ⟨p, l, n, rfl, a, b, c, d, f, g, by rw [e]⟩
def cDiv (p : Int) (a b : List Int) : Prop := Pm p ∧ a.length ≤ LM ∧ b.length ≤ LM ∧ b ≠ [] ∧ Nrm p b
instance (p : Int) (a b : List Int) : Decidable (cDiv p a b) := by unfold cDiv; infer_instance
def m_parted (p : Int) (a b : List Int) : Option (List Int × List Int) := gd (cDiv p a b) (pquo p a b, prem p a b)
theorem q_parted {p : Int} {l m : List Int} {r : List Int × List Int} (h : m_parted p l m = some r) : p_parted [.int p, inD l, inD m] (.tup [inD r.1, inD r.2]) := by
  obtain ⟨⟨a, b, c, d, f⟩, e⟩ := gd_ok h
  exact ⟨p, l, m, rfl, a, b, c, d, f, by rw [← e]⟩
def m_rest_of (p : Int) (a b : List Int) : Option (List Int) := gd (cDiv p a b) (prem p a b)
theorem q_rest_of {p : Int} {l m r : List Int} (h : m_rest_of p l m = some r) : p_rest_of [.int p, inD l, inD m] (inD r) := by
  obtain ⟨⟨a, b, c, d, f⟩, e⟩ := gd_ok h
  exact ⟨p, l, m, rfl, a, b, c, d, f, by rw [e]⟩
def m_whole_part (p : Int) (a b : List Int) : Option (List Int) := gd (cDiv p a b) (pquo p a b)
theorem q_whole_part {p : Int} {l m r : List Int} (h : m_whole_part p l m = some r) : p_whole_part [.int p, inD l, inD m] (inD r) := by
  obtain ⟨⟨a, b, c, d, f⟩, e⟩ := gd_ok h
  exact ⟨p, l, m, rfl, a, b, c, d, f, by rw [e]⟩
def cGcd (p : Int) (a b : List Int) : Prop := Pm p ∧ a.length + b.length + 1 ≤ LM ∧ Nrm p a ∧ Nrm p b
instance (p : Int) (a b : List Int) : Decidable (cGcd p a b) := by unfold cGcd; infer_instance
def m_common_with (p : Int) (a b : List Int) : Option (List Int × List Int × List Int) := gd (cGcd p a b) (pgcd3 p a b)
theorem q_common_with {p : Int} {l m : List Int} {r : List Int × List Int × List Int} (h : m_common_with p l m = some r) : p_common_with [.int p, inD l, inD m] (.tup [inD r.1, inD r.2.1, inD r.2.2]) := by
  obtain ⟨⟨a, b, c, d⟩, e⟩ := gd_ok h
  exact ⟨p, l, m, rfl, a, b, c, d, by rw [← e]; rfl⟩
def m_common_of (p : Int) (a b : List Int) : Option (List Int) := gd (cGcd p a b) (pgcd p a b)
theorem q_common_of {p : Int} {l m r : List Int} (h : m_common_of p l m = some r) : p_common_of [.int p, inD l, inD m] (inD r) := by
  obtain ⟨⟨a, b, c, d⟩, e⟩ := gd_ok h
  exact ⟨p, l, m, rfl, a, b, c, d, by rw [e]⟩
def m_slope_of (p : Int) (a : List Int) : Option (List Int) := gd (0 < p ∧ a.length ≤ LM) (pder p a)
theorem q_slope_of {p : Int} {l r : List Int} (h : m_slope_of p l = some r) : p_slope_of [.int p, inD l] (inD r) := by
  obtain ⟨⟨a, b⟩, e⟩ := gd_ok h
  exact ⟨p, l, rfl, a, b, by rw [e]⟩
def m_is_between (v lo hi : Int) : Option Bool := some (decide (lo ≤ v) && decide (v ≤ hi))
theorem q_is_between {v lo hi : Int} {r : Bool} (h : m_is_between v lo hi = some r) : p_is_between [.int v, .int lo, .int hi] (.bl r) := ⟨v, lo, hi, rfl, trivial, by rw [← Option.some.inj h]⟩
def m_check_number (v lo hi : Int) : Option Unit := gd (lo ≤ v ∧ v ≤ hi) ()
theorem q_check_number {v lo hi : Int} {r : Unit} (h : m_check_number v lo hi = some r) : p_check_number [.int v, .int lo, .int hi] .non := by
  obtain ⟨⟨a, b⟩, _⟩ := gd_ok h
  exact ⟨v, lo, hi, rfl, a, b, rfl⟩
def m_is_whole (v : Int) : Option Bool := some true
theorem q_is_whole {v : Int} {r : Bool} (h : m_is_whole v = some r) : p_is_whole [.int v] (.bl r) := ⟨v, rfl, trivial, by rw [← Option.some.inj h]⟩
def m_check_curve (c : Cur) : Option Unit := some ()
theorem q_check_curve {K : Fg} {c : Cur} {r : Unit} (h : m_check_curve c = some r) : p_check_curve K [cvD K c] .non := ⟨c, rfl, trivial, rfl⟩
/-! the law's own -/
def m__law_back (p n : Int) : Option Int := m_inverse p n
theorem q__law_back {p n r : Int} (h : m__law_back p n = some r) : p__law_back [.int p, .int n] (.int r) := q_inverse h
/-! ### further rules of values -/
section
variable {K : Fg} {G : Ctx} {te ta tb tc : TE} {tt tu : TT} {t u r : TS} {d e : D}
theorem st_popO {α : Type} {enc : α → D} {i : Nat} {l : List α} (hi : G[i]? = some (.own (l.map enc))) (hl : l ≠ []) : StD K (tDrop (tBM0 K "list" rPop (tVar i))) G (.nx (G.set i (.own (l.dropLast.map enc)))) := by
  rw [List.map_dropLast]
  exact st_pop hi (by simpa using hl)
theorem st_swapA {α : Type} {enc : α → D} {i ka kb : Nat} {l : List α} {x y : α} {ja jb : Int} {t1 t2 ti tj : TE} (hi : G[i]? = some (.own (l.map enc))) (hx : EvD K t1 G (enc x)) (hy : EvD K t2 G (enc y)) (hka : ixN l.length ja = some ka) (h1 : EvD K ti G (.int ja)) (hkb : ixN l.length jb = some kb)
    (h2 : EvD K tj (G.set i (.own ((l.set ka x).map enc))) (.int jb)) : StD K (tAsg (tTup (tCons t1 (tCons t2 tNil))) (gTup K 2 (gCons (gSub (tVar i) ti rSetL) (gCons (gSub (tVar i) tj rSetL) gNil)))) G (.nx (G.set i (.own (((l.set ka x).set kb y).map enc)))) := by
  rw [List.map_set, List.map_set]
  rw [List.map_set] at h2
  exact st_swap hi hx hy (by rw [List.length_map]; exact hka) h1 (by rw [List.length_map]; exact hkb) h2
theorem st_ow {α : Type} {enc : α → D} {i : Nat} {l m : List α} (h : StD K t G (.nx (G.set i (.own (l.map enc))))) (e : l = m) : StD K t G (.nx (G.set i (.own (m.map enc)))) := e ▸ h
theorem itc {wi : TI} {l m : List Int} (h : ItD K wi G (l.map D.int)) (e : l = m) : ItD K wi G (m.map D.int) := e ▸ h
theorem itz {α : Type} {enc : α → D} {wi : TI} {l m : List α} (h : ItD K wi G (l.map enc)) (e : l = m) : ItD K wi G (m.map enc) := e ▸ h
theorem it_rngD {m n : Int} (hm : -(2 ^ 61) ≤ m ∧ m < 2 ^ 61 ∧ -(2 ^ 61) ≤ n ∧ n < 2 ^ 61) (h : EvD K ta G (.int m)) (h2 : EvD K tb G (.int n)) : ItD K (iRng3 (tCons ta (tCons tb (tCons (tUn (rU fun i => V.int (-i)) (tC (V.int 1))) tNil)))) G ((rangeC m (-1) (m - n).toNat).map D.int) := it_rng3 (RgC.neg (by omega) (by omega) (by omega) (by omega)) h h2 ev_m1
theorem ev_eqB {i j : Bool} (ha : EvD K ta G (.bl i)) (hb : EvD K tb G (.bl j)) : EvD K (tOp rEq ta tb) G (.bl (decide (i = j))) := ev_op ha hb fun F H x y s hx hy Q q => by
  cases hx
  cases hy
  exact ⟨rfl, q _ F H (Step.refl s) (by show V.bl _ = V.bl _; congr 1; exact decide_eq_decide.mpr ⟨fun h => V.bl.inj h, fun h => by rw [h]⟩)⟩
theorem ev_lenV {α : Type} {enc : α → D} {as : List α} (h : EvH K ta G (.tup (as.map enc))) : EvD K (tCB (fun xs H Q => ∃ p ys, xs = [V.ref p] ∧ (SqL K H p ys ∨ SqT K H p ys) ∧ Q (.int ys.length) H) (tCons ta tNil)) G (.int as.length) := by
  have := ev_lenT h
  rw [List.length_map] at this
  exact this
theorem like_up {α : Type} [DecidableEq α] {enc : α → D} {k m : Nat} (h : Like enc k) (l : k ≤ m) : Like enc m := ⟨fun a => okD_mono _ _ _ l (h.ok a), h.eq⟩
theorem like_tp3 {α β γ : Type} [DecidableEq α] [DecidableEq β] [DecidableEq γ] {ea : α → D} {eb : β → D} {ec : γ → D} {k : Nat} (ha : Like ea k) (hb : Like eb k) (hc : Like ec k) : Like (fun x : α × β × γ => D.tup [ea x.1, eb x.2.1, ec x.2.2]) (k + 1) := by
  refine ⟨fun p => by simp [okD, okDs, ha.ok, hb.ok, hc.ok], fun p q => ?_⟩
  simp only [py, pys, PyData.eqv, PyData.eqvAll, ha.eq, hb.eq, hc.eq]
  obtain ⟨a, b, c⟩ := p
  obtain ⟨x, y, z⟩ := q
  by_cases h1 : a = x <;> by_cases h2 : b = y <;> by_cases h3 : c = z <;> simp [h1, h2, h3]
theorem like_vt {α : Type} [DecidableEq α] {enc : α → D} {k : Nat} (h : Like enc k) : Like (fun l : List α => D.tup (l.map enc)) (k + 1) := by
  refine ⟨fun as => by simpa [okD] using okDs_all h.ok as, fun as bs => ?_⟩
  have := (like_lst h).eq as bs
  simp only [lsD, py, PyData.eqv] at this ⊢
  exact this
end
end Cw
set_option maxHeartbeats 4000000
namespace Cw
open PySem PySem.Spec PyProof.Rows L2
def cBr (c : Cur) (A : Mat) (n : List Int) : Prop := Pm c.1 ∧ A.length ≤ 3 ∧ MxOk c.1 A.length A ∧ n.length ≤ 3 ∧ ∀ x ∈ n, 0 ≤ x ∧ x < c.1
noncomputable def m__law_brought (c : Int × List Int) (A : List (List Int)) (n : List Int) : Option (List Int) := @gd _ (cBr c A n) (Classical.propDecidable _) (brgt c.1 A n)
theorem q__law_brought {c : Int × List Int} {A : List (List Int)} {n r : List Int} (h : m__law_brought c A n = some r) : p__law_brought [.tup [.int c.1, inD c.2], lsD inD A, inD n] (inD r) := by
  obtain ⟨⟨h1, h2, h3, h4, h5⟩, e⟩ := @gd_ok _ _ (Classical.propDecidable _) _ _ h
  exact ⟨c, A.length, A, n, rfl, h1, h2, h3, h4, h5, by rw [e]⟩
end Cw
set_option maxHeartbeats 4000000
namespace Cw
open PySem PySem.Spec PyProof.Rows L2
noncomputable def m__law_whole_space (p : Int) (genus : Int) : Option (List (List Int)) :=
  (Option.bind (some [([] : List Int)]) fun found1 => (Option.bind (gd (-(2 ^ 62) ≤ genus ∧ genus < 2 ^ 62) (rangeI 0 (genus).toNat)) fun r2 => (Option.bind (foldO (fun (s3 : (List (List Int))) (x4 : Int) => (Option.bind (some ([] : List (List Int))) fun longer6 => (Option.bind (foldO (fun (s7 : (List (List Int))) (x8 : (List Int)) => (Option.bind (gd (-(2 ^ 62) ≤ p ∧ p < 2 ^ 62) (rangeI 0 (p).toNat)) fun r10 => (Option.bind (gd (r10.length ≤ LN) ()) fun k14 => (Option.bind (mapO (fun x11 : Int => (Option.bind (gd (x8.length + [x11].length ≤ LN) (x8 ++ [x11])) fun l12 => some l12)) r10) fun l13 => (Option.bind (gd (s7.length + l13.length ≤ LN) (s7 ++ l13)) fun l16 => some l16))))) longer6 s3) fun t17 => some t17))) found1 r2) fun t18 => some t18)))
def p__law_whole_space (ds : List D) (d : D) : Prop := ∃ (p : Int) (genus : Int) (r : (List (List Int))), ds = [(D.int p), (D.int genus)] ∧ m__law_whole_space p genus = some r ∧ d = (lsD inD r)
theorem q__law_whole_space {p : Int} {genus : Int} {r : (List (List Int))} (h : m__law_whole_space p genus = some r) : p__law_whole_space [(D.int p), (D.int genus)] (lsD inD r) := ⟨p, genus,  r, rfl, h, rfl⟩
noncomputable def m__law_rank (p : Int) (rows : (List (List Int))) : Option Int :=
  (Option.bind (gd (rows.length ≤ LN) ()) fun k3 => (Option.bind (mapO (fun x1 : (List Int) => some x1) rows) fun l2 => (Option.bind (some (0 : Int)) fun found5 => (Option.bind (ifO (some (!decide (l2 = ([] : List (List Int))))) ((Option.bind (atI l2 (0 : Int)) fun x6 => some (x6.length : Int))) (some (0 : Int))) fun i7 => (Option.bind (gd (-(2 ^ 62) ≤ i7 ∧ i7 < 2 ^ 62) (rangeI 0 (i7).toNat)) fun r11 => (Option.bind (foldO (fun (s12 : Int × (List (List Int))) (x13 : Int) => (Option.bind (gd (-(2 ^ 62) ≤ s12.1 ∧ s12.1 < 2 ^ 62 ∧ -(2 ^ 62) ≤ (s12.2.length : Int) ∧ (s12.2.length : Int) < 2 ^ 62) (rangeI s12.1 ((s12.2.length : Int) - s12.1).toNat)) fun r15 => (Option.bind (gd (r15.length ≤ LN) ()) fun k20 => (Option.bind (fltO (fun x16 : Int => (Option.bind (atI s12.2 x16) fun x17 => (Option.bind (atI x17 x13) fun x18 => some (!decide (x18 = (0 : Int)))))) (fun x16 : Int => some x16) r15) fun l19 => (Option.bind (some (!decide (l19 = ([] : List Int)))) fun b23 => (Option.bind (if b23 = true then (Option.bind (atI l19 (0 : Int)) fun x26 => (Option.bind (atI s12.2 x26) fun x27 => (Option.bind (atI s12.2 s12.1) fun x28 => (Option.bind (ixN s12.2.length s12.1) fun k30 => (Option.bind (atI l19 (0 : Int)) fun x32 => (Option.bind (ixN s12.2.length x32) fun k31 => (Option.bind (some ((s12.2.set k30 x27).set k31 x28)) fun left33 => (Option.bind (atI left33 s12.1) fun x34 => (Option.bind (atI x34 x13) fun x35 => (Option.bind (m__law_back p x35) fun c36 => (Option.bind (gd (-(2 ^ 62) ≤ (s12.1 + (1 : Int)) ∧ (s12.1 + (1 : Int)) < 2 ^ 62 ∧ -(2 ^ 62) ≤ (left33.length : Int) ∧ (left33.length : Int) < 2 ^ 62) (rangeI (s12.1 + (1 : Int)) ((left33.length : Int) - (s12.1 + (1 : Int))).toNat)) fun r37 => (Option.bind (foldO (fun (s38 : (List (List Int))) (x39 : Int) => (Option.bind (atI s38 x39) fun x41 => (Option.bind (atI x41 x13) fun x42 => (Option.bind (gd (CMul x42 c36) (x42 * c36)) fun n43 => (Option.bind (atI s38 x39) fun x44 => (Option.bind (gd (-(2 ^ 62) ≤ (x44.length : Int) ∧ (x44.length : Int) < 2 ^ 62) (rangeI 0 ((x44.length : Int)).toNat)) fun r45 => (Option.bind (gd (r45.length ≤ LN) ()) fun k54 => (Option.bind (mapO (fun x46 : Int => (Option.bind (atI s38 x39) fun x47 => (Option.bind (atI x47 x46) fun x48 => (Option.bind (atI s38 s12.1) fun x49 => (Option.bind (atI x49 x46) fun x50 => (Option.bind (gd (CMul n43 x50) (n43 * x50)) fun n51 => (Option.bind (gd (0 < p) ((x48 - n51) % p)) fun n52 => some n52))))))) r45) fun l53 => (Option.bind (ixN s38.length x39) fun k56 => (Option.bind (some (s38.set k56 l53)) fun left57 => some left57)))))))))) left33 r37) fun t58 => (Option.bind (some (s12.1 + (1 : Int))) fun found59 => some ((t58, found59))))))))))))))) else some ((s12.2, s12.1))) fun w25 => some ((w25.2, w25.1)))))))) (found5, l2) r11) fun t60 => some t60.1))))))
def p__law_rank (ds : List D) (d : D) : Prop := ∃ (p : Int) (rows : (List (List Int))) (r : Int), ds = [(D.int p), (lsD inD rows)] ∧ m__law_rank p rows = some r ∧ d = (D.int r)
theorem q__law_rank {p : Int} {rows : (List (List Int))} {r : Int} (h : m__law_rank p rows = some r) : p__law_rank [(D.int p), (lsD inD rows)] (D.int r) := ⟨p, rows,  r, rfl, h, rfl⟩
noncomputable def m__law_last_rank (told : (Int × (List Int))) (lines : (List (List Int))) : Option Int :=
  (Option.bind (gd (-(2 ^ 62) ≤ (lines.length : Int) ∧ (lines.length : Int) < 2 ^ 62) (rangeI 0 ((lines.length : Int)).toNat)) fun r1 => (Option.bind (gd (r1.length ≤ LN) ()) fun k9 => (Option.bind (mapO (fun x2 : Int => (Option.bind (gd (-(2 ^ 62) ≤ (lines.length : Int) ∧ (lines.length : Int) < 2 ^ 62) (rangeI 0 ((lines.length : Int)).toNat)) fun r3 => (Option.bind (gd (r3.length ≤ LN) ()) fun k6 => (Option.bind (mapO (fun x4 : Int => some (if (decide (x2 = x4)) = true then (1 : Int) else 0)) r3) fun l5 => some l5)))) r1) fun l8 => (Option.bind (gd (-(2 ^ 62) ≤ (lines.length : Int) ∧ (lines.length : Int) < 2 ^ 62) (rangeI 0 ((lines.length : Int)).toNat)) fun r11 => (Option.bind (foldO (fun (s12 : (List (List Int))) (x13 : Int) => (Option.bind (gd (s12.length ≤ LN) ()) fun k18 => (Option.bind (mapO (fun x15 : (List Int) => (Option.bind (m__law_brought told lines x15) fun c16 => some c16)) s12) fun l17 => some l17))) l8 r11) fun t20 => (Option.bind (m__law_rank told.1 t20) fun c21 => some c21))))))
def p__law_last_rank (ds : List D) (d : D) : Prop := ∃ (told : (Int × (List Int))) (lines : (List (List Int))) (r : Int), ds = [(D.tup [(D.int told.1), (inD told.2)]), (lsD inD lines)] ∧ m__law_last_rank told lines = some r ∧ d = (D.int r)
theorem q__law_last_rank {told : (Int × (List Int))} {lines : (List (List Int))} {r : Int} (h : m__law_last_rank told lines = some r) : p__law_last_rank [(D.tup [(D.int told.1), (inD told.2)]), (lsD inD lines)] (D.int r) := ⟨told, lines,  r, rfl, h, rfl⟩
noncomputable def m__law_stands (told : (Int × (List Int))) (lines : (List (List Int))) : Option Int :=
  (Option.bind (m__law_whole_space told.1 (lines.length : Int)) fun c1 => (Option.bind (gd (-(2 ^ 62) ≤ (lines.length : Int) ∧ (lines.length : Int) < 2 ^ 62) (rangeI 0 ((lines.length : Int)).toNat)) fun r2 => (Option.bind (foldO (fun (s3 : (List (List Int))) (x4 : Int) => (Option.bind (gd (s3.length ≤ LN) ()) fun k9 => (Option.bind (mapO (fun x6 : (List Int) => (Option.bind (m__law_brought told lines x6) fun c7 => some (c7, true))) s3) fun l8 => (Option.bind (gd (l8.length ≤ LN) ()) fun k11 => (Option.bind (some (mrgI [] l8)) fun known12 => (Option.bind (gd (∀ k ∈ List.map Prod.fst known12, k ≠ []) ()) fun k13 => (Option.bind (gd (((List.map Prod.fst known12).mergeSort (leD D.key)).length ≤ LN) ()) fun k16 => (Option.bind (mapO (fun x14 : (List Int) => some x14) ((List.map Prod.fst known12).mergeSort (leD D.key))) fun l15 => some l15)))))))) c1 r2) fun t18 => some (t18.length : Int))))
def p__law_stands (ds : List D) (d : D) : Prop := ∃ (told : (Int × (List Int))) (lines : (List (List Int))) (r : Int), ds = [(D.tup [(D.int told.1), (inD told.2)]), (lsD inD lines)] ∧ m__law_stands told lines = some r ∧ d = (D.int r)
theorem q__law_stands {told : (Int × (List Int))} {lines : (List (List Int))} {r : Int} (h : m__law_stands told lines = some r) : p__law_stands [(D.tup [(D.int told.1), (inD told.2)]), (lsD inD lines)] (D.int r) := ⟨told, lines,  r, rfl, h, rfl⟩
end Cw
set_option maxHeartbeats 4000000
namespace Cw
open PySem PySem.Spec PyProof.Rows L2
/-! ### what the mirrors give: helpers -/
section
variable {α β γ σ : Type}
theorem sx {m : Option α} {k : α → Option β} {a : α} {r : Option β} (h : m = some a) (h2 : k a = r) : m.bind k = r := by rw [h]; exact h2
theorem sxg {c : Prop} [Decidable c] {v : α} {k : α → Option β} {r : Option β} (h : c) (h2 : k v = r) : (gd c v).bind k = r := by rw [gd_of h]; exact h2
theorem atI_of {l : List α} {j : Int} {x : α} (h0 : 0 ≤ j) (h : l[j.toNat]? = some x) : atI l j = some x := by
  obtain ⟨k, rfl⟩ : ∃ k : Nat, j = k := ⟨j.toNat, by omega⟩
  exact atI_nat h
theorem at_cf {l : List Int} {j : Int} (h0 : 0 ≤ j) (h : j < l.length) : atI l j = some (cf l j.toNat) := atI_of h0 (cf_get (by omega))
theorem at_row' {A : Mat} {j : Int} (h0 : 0 ≤ j) (h : j < A.length) : atI A j = some (row A j.toNat) := atI_of h0 (by
  unfold row
  have hj : j.toNat < A.length := by omega
  rw [List.getD_eq_getElem?_getD, List.getElem?_eq_getElem hj]; rfl)
theorem at_m1 {l : List Int} (h : l ≠ []) : atI l (-1) = some (lastI l) := by
  have := at_last h
  rw [atI_map] at this
  cases q : atI l (-1) with
  | none => rw [q] at this; cases this
  | some x =>
    rw [q] at this
    have e : D.int x = D.int (lastI l) := Option.some.inj this
    cases e
    rfl
theorem foldO_rng {f : σ → Int → Option σ} {S : Nat → σ} {lo : Int} : ∀ {n : Nat}, (∀ k, k < n → f (S k) (lo + (k : Int)) = some (S (k + 1))) → foldO f (S 0) (rangeI lo n) = some (S n)
  | 0, _ => rfl
  | n + 1, h => by
    have ih := foldO_rng (n := n) fun k hk => h k (by omega)
    rw [show rangeI lo (n + 1) = rangeI lo n ++ [lo + (n : Int)] from rangeI_succ]
    have app : ∀ (l m : List Int) (s t : σ), foldO f s l = some t → foldO f s (l ++ m) = foldO f t m := by
      intro l
      induction l with
      | nil => intro m s t e; cases e; rfl
      | cons a l ihl =>
        intro m s t e
        obtain ⟨s', h1, h2⟩ := bnd (show (f s a).bind (fun s' => foldO f s' l) = some t from e)
        show (f s a).bind (fun s' => foldO f s' (l ++ m)) = _
        rw [h1]
        exact ihl m s' t h2
    rw [app _ _ _ _ ih]
    show (f (S n) (lo + (n : Int))).bind _ = _
    rw [h n (by omega)]; rfl
theorem foldO_rng0 {f : σ → Int → Option σ} {S : Nat → σ} {n : Nat} (h : ∀ k, k < n → f (S k) (k : Int) = some (S (k + 1))) : foldO f (S 0) (rangeI 0 n) = some (S n) := foldO_rng fun k hk => by rw [Int.zero_add]; exact h k hk
theorem foldO_list {f : σ → α → Option σ} {g : σ → α → σ} : ∀ {l : List α} {s : σ}, (∀ s x, x ∈ l → f s x = some (g s x)) → foldO f s l = some (l.foldl g s)
  | [], s, _ => rfl
  | a :: l, s, h => by
    show (f s a).bind _ = _
    rw [h s a List.mem_cons_self]
    exact foldO_list fun s x hx => h s x (List.mem_cons_of_mem _ hx)
theorem ifO_of {x : Option Bool} {y z : Option α} {b : Bool} {r : Option α} (h : x = some b) (h1 : b = true → y = r) (h2 : b = false → z = r) : ifO x y z = r := by
  unfold ifO
  rw [h]
  show (if b = true then y else z) = r
  cases b with
  | true => rw [if_t rfl]; exact h1 rfl
  | false => rw [if_f rfl]; exact h2 rfl
theorem foldl_cat {f : α → List β} : ∀ {l : List α} {s : List β}, l.foldl (fun s x => s ++ f x) s = s ++ l.flatMap f
  | [], s => by simp
  | a :: l, s => by rw [List.foldl_cons, foldl_cat, List.flatMap_cons, List.append_assoc]
theorem rangeI_id {lo : Int} {n : Nat} : (rangeI lo n).length = n := rangeI_len
end
end Cw
set_option maxHeartbeats 4000000
namespace Cw
open PySem PySem.Spec PyProof.Rows L2
section
variable {p : Int} {g : Nat} {A : Mat}
theorem pow_le {g : Nat} (pm : Pm p) (hg : g ≤ 3) : p.toNat ^ g ≤ 2197 := by
  have h1 := pm.le
  have : p.toNat ≤ 13 := by omega
  have h3 : p.toNat ^ g ≤ 13 ^ g := Nat.pow_le_pow_left this g
  have : g = 0 ∨ g = 1 ∨ g = 2 ∨ g = 3 := by omega
  rcases this with rfl | rfl | rfl | rfl <;> omega
theorem whole_is (pm : Pm p) (hg : g ≤ 3) : m__law_whole_space p (g : Int) = some (whole p g) := by
  have hp := pm.pos
  have hpl := pm.le
  have hLM : LM = 1000000 := rfl
  have hLN : LN = 10000000 := rfl
  unfold m__law_whole_space
  refine sx rfl (sxg (by omega) (sx (a := whole p g) ?_ rfl))
  rw [Int.toNat_natCast]
  refine foldO_rng0 (S := whole p) fun k hk => ?_
  have hlen := whole_len (p := p) k
  have hpk := pow_le pm (g := k) (by omega)
  have hpk1 := pow_le pm (g := k + 1) (by omega)
  have hmem := fun v hv => (whole_mem hp k v).mp hv
  refine sx rfl (sx (a := whole p (k + 1)) ?_ rfl)
  show foldO _ [] (whole p k) = some ((whole p k).flatMap fun v => (rangeI 0 p.toNat).map fun x => v ++ [x])
  have key : ∀ (l : List (List Int)) (s : List (List Int)), (∀ v ∈ l, VOk p k v) → s.length + l.length * p.toNat ≤ 2197 → foldO (fun (s7 : (List (List Int))) (x8 : (List Int)) => (Option.bind (gd (-(2 ^ 62) ≤ p ∧ p < 2 ^ 62) (rangeI 0 (p).toNat)) fun r10 => (Option.bind (gd (r10.length ≤ LN) ()) fun k14 => (Option.bind (mapO (fun x11 : Int => (Option.bind (gd (x8.length + [x11].length ≤ LN) (x8 ++ [x11])) fun l12 => some l12)) r10) fun l13 => (Option.bind (gd (s7.length + l13.length ≤ LN) (s7 ++ l13)) fun l16 => some l16))))) s l = some (s ++ l.flatMap fun v => (rangeI 0 p.toNat).map fun x => v ++ [x]) := by
    intro l
    induction l with
    | nil => intro s _ _; show some s = _; simp
    | cons v l ih =>
      intro s h1 h2
      rw [List.length_cons, Nat.succ_mul] at h2
      have hv := (h1 v List.mem_cons_self).1
      refine sx (a := s ++ (rangeI 0 p.toNat).map fun x => v ++ [x]) (sxg (by omega) (sxg (by rw [rangeI_len]; omega) (sx (a := (rangeI 0 p.toNat).map fun x => v ++ [x]) (mapO_of fun x _ => sxg (by simp; omega) rfl) (sxg (by rw [List.length_map, rangeI_len]; omega) rfl)))) ?_
      rw [ih _ (fun w hw => h1 w (List.mem_cons_of_mem _ hw)) (by rw [List.length_append, List.length_map, rangeI_len]; omega), List.flatMap_cons, List.append_assoc]
  have := key (whole p k) [] hmem (by rw [hlen, List.length_nil, Nat.zero_add, ← Nat.pow_succ]; exact hpk1)
  rw [this]
  rfl
theorem rank_is (pm : Pm p) (hg : g ≤ 3) (hA : MxOk p g A) : m__law_rank p A = some ((rank p A : Nat) : Int) := by
  have hp := pm.pos
  have hpl := pm.le
  have hLM : LM = 1000000 := rfl
  have hLN : LN = 10000000 := rfl
  have hAl := hA.ln
  unfold m__law_rank
  refine sxg (by omega) (sx (a := A) (by rw [mapO_of (g := fun x => x) fun x _ => rfl, List.map_id']) (sx rfl (sx (a := (g : Int)) ?_ (sxg (by omega) ?_))))
  · refine ifO_of rfl (fun z => ?_) fun z => ?_
    · have hne : A ≠ [] := by simpa using z
      have h0 : 0 < A.length := List.length_pos_iff.mpr hne
      refine sx (at_row' (A := A) (by omega) (by omega)) ?_
      rw [show (row A (0 : Int).toNat).length = g from (hA.row (i := 0) (by omega)).1]
    · have he : A = [] := by simpa using z
      subst he
      rw [List.length_nil] at hAl
      rw [← hAl]; rfl
  · rw [Int.toNat_natCast]
    refine sx (a := (((rkAll p A g).2 : Int), (rkAll p A g).1)) ?_ (show some (((rkAll p A g).2 : Nat) : Int) = _ by unfold rank; rw [hAl])
    refine foldO_rng0 (S := fun k => (((rkAll p A k).2 : Int), (rkAll p A k).1)) fun k hk => ?_
    obtain ⟨hX, E, _⟩ := all_ok pm hA k (by omega)
    have hst : rkAll p A (k + 1) = rkStep p (rkAll p A k) k := by
      unfold rkAll
      rw [List.range_succ, List.foldl_append]; rfl
    rw [hst]
    generalize rkAll p A k = st at hX E
    obtain ⟨X, f⟩ := st
    simp only at hX E ⊢
    have hXl := hX.ln
    have hfg := E.fg
    have cell : ∀ i : Int, (f : Int) ≤ i → i < X.length → (0 : Int) ≤ i ∧ (row X i.toNat).length = g := fun i h1 h2 => ⟨by omega, (hX.row (by omega)).1⟩
    refine sxg (by omega) (sxg (by rw [rangeI_len]; omega) (sx (a := picks X f k) ?_ (sx rfl ?_)))
    · rw [show ((X.length : Int) - (f : Int)).toNat = X.length - f by omega]
      unfold picks
      rw [fltO_of (p := fun i : Int => !decide (cf (row X i.toNat) k = 0)) (g := fun i => i) (fun i hi => ?_) (fun i hi _ => rfl), List.map_id']
      have hi := rangeI_mem hi
      have hc := cell i (by omega) (by omega)
      refine sx (at_row' (by omega) (by omega)) (sx (at_cf (by omega) (by omega)) ?_)
      rw [Int.toNat_natCast]
    · cases hz : picks X f k with
      | nil =>
        have e1 : rkStep p (X, f) k = (X, f) := by unfold rkStep; rw [hz]
        rw [e1]
        exact sx (a := (X, (f : Int))) (by rw [if_f (by simp)]) rfl
      | cons m r =>
        obtain ⟨m1, m2, m3⟩ := picks_cons (by omega) hz
        have m0 : 0 ≤ m := by
          have : m ∈ picks X f k := by rw [hz]; exact List.mem_cons_self ..
          have := rangeI_mem (List.mem_filter.mp this).1
          omega
        have e1 : rkStep p (X, f) k = (rkClr p (rkSwap X f m.toNat) f k, f + 1) := by unfold rkStep; rw [hz]
        rw [e1]
        generalize hn : m.toNat = n at m1 m2 m3
        have hm : m = (n : Int) := by omega
        subst hm
        have hfX : f < X.length := by omega
        have hB := swap_ok hX (i := f) (j := n) (by omega) (by omega)
        have hBf : row (rkSwap X f n) f = row X n := by
          rw [swap_row hfX m2]
          by_cases q : f = n
          · rw [if_pos q, q]
          · rw [if_neg q, if_pos rfl]
        refine sx (a := (rkClr p (rkSwap X f n) f k, ((f : Int) + 1))) ?_ rfl
        rw [if_t (by simp)]
        have a0 : ∀ {l : List Int} {x : Int}, atI (x :: l) (0 : Int) = some x := fun {l x} => atI_of (by omega) rfl
        refine sx a0 (sx (at_row' (A := X) (j := (n : Int)) (by omega) (by omega)) (sx (at_row' (A := X) (j := (f : Int)) (by omega) (by omega)) (sx (ixN_int (by omega) (by omega)) (sx a0 (sx (ixN_int (by omega) (by omega)) (sx (a := rkSwap X f n) ?_ ?_))))))
        · rw [Int.toNat_natCast, Int.toNat_natCast]; rfl
        generalize rkSwap X f n = B at hB hBf
        have hBl := hB.ln
        have hBc : cf (row B f) k ≠ 0 := by rw [hBf]; exact m3
        have hBb := hB.cell (i := f) (j := k) (by omega) hk
        have hBr := (hB.row (i := f) (by omega)).1
        have hne : cf (row B f) k % p ≠ 0 := by rw [Int.emod_eq_of_lt hBb.1 hBb.2]; exact hBc
        obtain ⟨b1, b2, b3⟩ := pinv_mem pm hne
        refine sx (at_row' (A := B) (j := (f : Int)) (by omega) (by omega)) ?_
        rw [Int.toNat_natCast]
        refine sx (at_cf (l := row B f) (j := (k : Int)) (by omega) (by omega)) ?_
        rw [Int.toNat_natCast]
        refine sx (a := pinv p (cf (row B f) k)) (gd_of ⟨pm, hne, dig p pm hBb⟩) (sxg (by omega) (sx (a := rkClr p B f k) ?_ rfl))
        rw [← clr_fold (p := p) (c := k) (by omega : f < B.length), show ((B.length : Int) - ((f : Int) + 1)).toNat = B.length - (f + 1) by omega]
        generalize pinv p (cf (row B f) k) = back at b1 b2
        have stepS : ∀ t : Nat, (rangeI ((f : Int) + 1) (t + 1)).foldl (rkSet p f k back) B = rkSet p f k back ((rangeI ((f : Int) + 1) t).foldl (rkSet p f k back) B) ((f : Int) + 1 + t) := fun t => by rw [rangeI_succ, List.foldl_append]; rfl
        refine foldO_rng (S := fun t => (rangeI ((f : Int) + 1) t).foldl (rkSet p f k back) B) (lo := (f : Int) + 1) fun t ht => ?_
        obtain ⟨y1, y2⟩ := set_inv (p := p) (B := B) (f := f) (c := k) (back := back) t (by omega)
        rw [stepS]
        have hY : ∀ i, i < g → (row ((rangeI ((f : Int) + 1) t).foldl (rkSet p f k back) B) i).length = g ∧ ∀ x ∈ row ((rangeI ((f : Int) + 1) t).foldl (rkSet p f k back) B) i, 0 ≤ x ∧ x < p := fun i hi => by
          rw [y2 i (by omega)]
          split
          · unfold rsub
            refine ⟨by rw [mk_len]; exact (hB.row hi).1, fun x hx => ?_⟩
            unfold mk at hx
            obtain ⟨j, _, rfl⟩ := List.mem_map.mp hx
            exact ⟨Int.emod_nonneg _ (by omega), Int.emod_lt_of_pos _ hp⟩
          · exact hB.row hi
        generalize (rangeI ((f : Int) + 1) t).foldl (rkSet p f k back) B = Y at y1 hY
        have hi : (((f : Int) + 1 + (t : Int))).toNat < g ∧ 0 ≤ (f : Int) + 1 + t ∧ (f : Int) + 1 + t < g := by omega
        generalize (f : Int) + 1 + (t : Int) = i at hi
        obtain ⟨hYi, hYb⟩ := hY i.toNat hi.1
        have hYf := hY f (by omega)
        have hcb : ∀ j : Int, 0 ≤ j → j < g → 0 ≤ cf (row Y i.toNat) j.toNat ∧ cf (row Y i.toNat) j.toNat < p := fun j h1 h2 => hYb _ (List.mem_of_getElem? (cf_get (by omega)))
        have hfb : ∀ j : Int, 0 ≤ j → j < g → 0 ≤ cf (row Y f) j.toNat ∧ cf (row Y f) j.toNat < p := fun j h1 h2 => hYf.2 _ (List.mem_of_getElem? (cf_get (by omega)))
        refine sx (at_row' (A := Y) (j := i) (by omega) (by omega)) (sx (at_cf (l := row Y i.toNat) (j := (k : Int)) (by omega) (by omega)) (sxg (.inr (by omega)) (sx (at_row' (A := Y) (j := i) (by omega) (by omega)) (sxg (by omega) (sxg (by rw [rangeI_len]; omega) (sx (a := rsub p (cf (row Y i.toNat) k * back) (row Y i.toNat) (row Y f)) ?_ (sx (a := i.toNat) (ixN_int (by omega) (by omega)) rfl)))))))
        rw [Int.toNat_natCast, Int.toNat_natCast]
        have hbb : CMul (cf (row Y i.toNat) k) back := .inr (by omega)
        have hby : ∀ z : Int, 0 ≤ z → z < p → CMul (cf (row Y i.toNat) k * back) z := fun z z0 z1 => .inr (by omega)
        rw [mapO_of (g := fun j : Int => (cf (row Y i.toNat) j.toNat - cf (row Y i.toNat) k * back * cf (row Y f) j.toNat) % p) fun j hj => ?_]
        · congr 1
          unfold rsub mk
          rw [hYi, rangeI_map]
          rfl
        · have hj := rangeI_mem hj
          have hj2 := hfb j (by omega) (by omega)
          refine sx (at_row' (A := Y) (j := i) (by omega) (by omega)) (sx (at_cf (by omega) (by omega)) (sx (at_row' (A := Y) (j := (f : Int)) (by omega) (by omega)) ?_))
          rw [Int.toNat_natCast]
          exact sx (at_cf (by omega) (by omega)) (sxg (hby _ hj2.1 hj2.2) (sxg hp rfl))
theorem brought_is (c : Cur) (pm : Pm c.1) (hg : g ≤ 3) (hA : MxOk c.1 g A) {n : List Int} (hn : VOk c.1 g n) : m__law_brought c A n = some (brgt c.1 A n) := by
  unfold m__law_brought
  exact @gd_of _ _ (Classical.propDecidable _) _ ⟨pm, by rw [hA.ln]; exact hg, by rw [hA.ln]; exact hA, by rw [hn.1]; exact hg, hn.2⟩
theorem last_rank_is (c : Cur) (pm : Pm c.1) (hg : g ≤ 3) (hA : MxOk c.1 g A) : m__law_last_rank c A = some ((rank c.1 (mxRaised c.1 A g) : Nat) : Int) := by
  have hp := pm.pos
  have hLM : LM = 1000000 := rfl
  have hLN : LN = 10000000 := rfl
  have hAl := hA.ln
  have h1 : 1 < c.1 := by have := pm.ge; omega
  rw [raised_brN h1 hA g]
  unfold m__law_last_rank
  refine sxg (by omega) (sxg (by rw [rangeI_len]; omega) (sx (a := mxOne A.length) ?_ (sxg (by omega) (sx (a := brN c.1 A g) ?_ ?_))))
  · rw [mapO_of (g := fun low : Int => (rangeI 0 A.length).map fun high : Int => if low = high then (1 : Int) else 0) fun low _ => ?_]
    · rw [Int.toNat_natCast]; rfl
    · refine sxg (by omega) (sxg (by rw [rangeI_len]; omega) (sx (a := (rangeI 0 A.length).map fun high : Int => if low = high then (1 : Int) else 0) ?_ rfl))
      rw [Int.toNat_natCast, mapO_of (g := fun high : Int => if low = high then (1 : Int) else 0) fun high _ => ?_]
      by_cases q : low = high
      · rw [if_pos q, if_pos (decide_eq_true q)]
      · rw [if_neg q, if_neg (by simpa using q)]
  · rw [Int.toNat_natCast, hAl]
    show foldO _ (mxOne g) _ = _
    have h0 : mxOne g = brN c.1 A 0 := by show _ = mxOne A.length; rw [hAl]
    rw [h0]
    refine foldO_rng0 (S := brN c.1 A) fun k hk => ?_
    obtain ⟨hB, _⟩ := brN_ok h1 hA k
    exact sxg (by rw [hB.ln]; omega) (sx (mapO_of (g := brgt c.1 A) fun v hv => sx (brought_is c pm hg hA ⟨hB.rl v hv, hB.bd v hv⟩) rfl) rfl)
  · exact sx (rank_is pm hg (brN_ok h1 hA g).1) rfl
theorem stands_is (c : Cur) (pm : Pm c.1) (hg : g ≤ 3) (hA : MxOk c.1 g A) : m__law_stands c A = some ((c.1.toNat ^ rank c.1 (mxRaised c.1 A g) : Nat) : Int) := by
  have hp := pm.pos
  have hLM : LM = 1000000 := rfl
  have hLN : LN = 10000000 := rfl
  have hAl := hA.ln
  have h1 : 1 < c.1 := by have := pm.ge; omega
  have hpg := pow_le pm hg
  rw [raised_brN h1 hA g]
  unfold m__law_stands
  rw [hAl]
  refine sx (whole_is pm hg) (sxg (by omega) ?_)
  rw [Int.toNat_natCast]
  have key : ∀ k, k ≤ g → ∃ S, foldO (fun (s3 : (List (List Int))) (x4 : Int) => (Option.bind (gd (s3.length ≤ LN) ()) fun k9 => (Option.bind (mapO (fun x6 : (List Int) => (Option.bind (m__law_brought c A x6) fun c7 => some (c7, true))) s3) fun l8 => (Option.bind (gd (l8.length ≤ LN) ()) fun k11 => (Option.bind (some (mrgI [] l8)) fun known12 => (Option.bind (gd (∀ k ∈ List.map Prod.fst known12, k ≠ []) ()) fun k13 => (Option.bind (gd (((List.map Prod.fst known12).mergeSort (leD D.key)).length ≤ LN) ()) fun k16 => (Option.bind (mapO (fun x14 : (List Int) => some x14) ((List.map Prod.fst known12).mergeSort (leD D.key))) fun l15 => some l15)))))))) (whole c.1 g) (rangeI 0 k) = some S ∧ S.Nodup ∧ Made c.1 g (brN c.1 A k) S := by
    intro k
    induction k with
    | zero => exact fun _ => ⟨whole c.1 g, rfl, whole_nd g, by show Made c.1 g (mxOne A.length) _; rw [hAl]; exact made_whole hp⟩
    | succ k ih =>
      intro hk
      obtain ⟨S, e, nd, md⟩ := ih (by omega)
      obtain ⟨hB, _⟩ := brN_ok h1 hA k
      have hS : ∀ v ∈ S, VOk c.1 g v := fun v hv => ((md v).mp hv).1
      have hSl : S.length ≤ 2197 := by
        rw [made_count pm hB nd md]
        exact pow_le pm (Nat.le_trans (rank_le pm hB) hg)
      let M := mrgI [] (S.map fun v => (brgt c.1 A v, true))
      have hM : ∀ w, w ∈ M.map Prod.fst ↔ w ∈ S.map (brgt c.1 A) := fun w => by
        have gen : ∀ (l : List (List Int)) (acc : List (List Int × Bool)), ∀ w, w ∈ (mrgI acc (l.map fun v => (v, true))).map Prod.fst ↔ w ∈ acc.map Prod.fst ∨ w ∈ l := by
          intro l
          induction l with
          | nil => intro acc w; show w ∈ acc.map Prod.fst ↔ _; simp
          | cons v l ihl =>
            intro acc w
            show w ∈ (mrgI (putI acc v true) (l.map fun v => (v, true))).map Prod.fst ↔ _
            rw [ihl, putI_keys]
            by_cases q : v ∈ acc.map Prod.fst
            · rw [if_pos q, List.mem_cons]
              constructor
              · rintro (h | h)
                · exact .inl h
                · exact .inr (.inr h)
              · rintro (h | h | h)
                · exact .inl h
                · subst h; exact .inl q
                · exact .inr h
            · rw [if_neg q, List.mem_append, List.mem_singleton, List.mem_cons, or_assoc]
        have := gen (S.map (brgt c.1 A)) [] w
        rw [List.map_map] at this
        rw [show M = mrgI [] (S.map ((fun v => (v, true)) ∘ brgt c.1 A)) from rfl, this]
        simp
      have hMn : (M.map Prod.fst).Nodup := by
        have gen : ∀ (l acc : List (List Int × Bool)), (acc.map Prod.fst).Nodup → ((mrgI acc l).map Prod.fst).Nodup := by
          intro l
          induction l with
          | nil => intro acc h; exact h
          | cons q l ihl =>
            intro acc h
            refine ihl (putI acc q.1 q.2) ?_
            rw [putI_keys]
            split
            · exact h
            · rw [List.nodup_append]
              exact ⟨h, by simp, fun a ha b hb z => by rw [List.mem_singleton.mp hb] at z; subst z; contradiction⟩
        exact gen _ [] List.nodup_nil
      have hMl : (M.map Prod.fst).length ≤ 2197 := by
        have gen : ∀ (l acc : List (List Int × Bool)), (mrgI acc l).length ≤ acc.length + l.length := by
          intro l
          induction l with
          | nil => intro acc; exact Nat.le_refl _
          | cons q l ihl =>
            intro acc
            have h1 := ihl (putI acc q.1 q.2)
            have h2 : (putI acc q.1 q.2).length ≤ acc.length + 1 := by
              unfold putI
              split
              · rw [List.length_map]; omega
              · rw [List.length_append]; simp
            show (mrgI (putI acc q.1 q.2) l).length ≤ _
            rw [List.length_cons]
            omega
        have := gen (S.map fun v => (brgt c.1 A v, true)) []
        rw [List.length_map, List.length_nil] at this
        rw [List.length_map]
        show (mrgI [] _).length ≤ _
        omega
      let T := (M.map Prod.fst).mergeSort (leD D.key)
      have hT : ∀ w, w ∈ T ↔ w ∈ M.map Prod.fst := fun w => (List.mergeSort_perm _ _).mem_iff
      refine ⟨T, ?_, (List.mergeSort_perm _ _).nodup_iff.mpr hMn, ?_⟩
      · rw [rangeI_succ]
        have app : ∀ {σ α : Type} {f : σ → α → Option σ} {l m : List α} {s t : σ}, foldO f s l = some t → foldO f s (l ++ m) = foldO f t m := by
          intro σ α f l
          induction l with
          | nil => intro m s t e; cases e; rfl
          | cons a l ihl =>
            intro m s t e
            obtain ⟨s', h1, h2⟩ := bnd (show (f s a).bind (fun s' => foldO f s' l) = some t from e)
            show (f s a).bind (fun s' => foldO f s' (l ++ m)) = _
            rw [h1]
            exact ihl h2
        rw [app e]
        refine sx (a := T) (sxg (by omega) (sx (mapO_of (g := fun v => (brgt c.1 A v, true)) fun v hv => sx (brought_is c pm hg hA (hS v hv)) rfl) (sxg (by rw [List.length_map]; omega) (sx rfl (sxg (fun w hw => ?_) (sxg (by rw [List.length_mergeSort]; exact Nat.le_trans hMl (by decide)) (sx (mapO_of (g := fun x => x) fun x _ => rfl) ?_))))))) rfl
        · obtain ⟨v, _, rfl⟩ := List.mem_map.mp ((hM w).mp hw)
          intro z
          have := brgt_len (p := c.1) (A := A) (n := v)
          rw [z, hAl] at this
          rw [← this] at hk
          exact absurd hk (Nat.not_succ_le_zero _)
        · rw [List.map_id']
      · exact made_next hp hA hB md fun w => (hT w).trans (hM w)
  obtain ⟨S, e, nd, md⟩ := key g (Nat.le_refl _)
  refine sx e ?_
  rw [made_count pm (brN_ok h1 hA g).1 nd md]
end
end Cw
set_option maxHeartbeats 4000000
namespace Cw
open PySem PySem.Spec PyProof.Rows L2
def p__law_any_curve (ds : List D) (d : D) : Prop := ∃ c : Cur, ds = [] ∧ CvOk c ∧ d = toldD c
/-- a pair made, then taken apart -/
theorem sg_parT {K : Fg} {g : Addr} {i : Nat} {G : Ctx} {n n1 n2 : Nat} {ta tb : TE} {r : TS} {N j l : Nat} {P1 P2 R : D → Prop} (hj : j ≠ i) (hl : l ≠ i) (h : EvG K g i ta G n n1 P1) (k : EvG K g i tb G n1 n2 P2) (m : ∀ d e, P1 d → P2 e → StG K g i r ((G.set j (.val d)).set l (.val e)) n2 N R) : StG K g i (tSeq (tAsg (tTup (tCons ta (tCons tb tNil))) (gTup K 2 (gCons (gName j) (gCons (gName l) gNil)))) r) G n N R := fun F0 H0 F H σ E s hi hg q =>
  h F0 H0 F H σ s hi hg _ fun v d F1 H1 p1 t1 g1 r1 => k F0 H0 F1 H1 σ (s.step t1) hi g1 _ fun u e F2 H2 p2 t2 g2 r2 => by
    refine ⟨by show 2 ≤ sizeLine; decide, fun p hp => ?_⟩
    obtain ⟨x, y, z, k1, k2⟩ := g2
    have t3 : Step F2 H2 F2 (upd H2 p (.tup [v, u])) := Step.newP (t2.fh.trans del_same) hp
    obtain ⟨a, b⟩ := t3.dl (none_of_del t2.fh) k1
    exact ⟨p, [v, u], rfl, .inl (.inl upd_same), rfl, v, [u], rfl, u, [], rfl, rfl, m d e p1 p2 F0 H0 F2 _ _ E (((((s.step t1).step t2).step a).set (Rep.mono t2.ff _ _ r1)).set r2) (by rw [List.getElem?_set_ne hl, List.getElem?_set_ne hj]; exact hi) ⟨x, y, z, b, k2⟩ q⟩
theorem curve_ok7 {p : Int} (hp : Pm p) {xs : List Int} (hx : ∀ x ∈ xs, 0 ≤ x ∧ x < p) (hl : xs.length = 1 ∨ xs.length = 3 ∨ xs.length = 5 ∨ xs.length = 7) (hc : (lcF p (xs ++ [1]) (pder p (xs ++ [1]))).length = 1) : CvOk (p, xs ++ [1]) := by
  have hpg := hp.ge
  have nr : Nrm p (xs ++ [1]) := ⟨fun x h => by
    rcases List.mem_append.mp h with z | z
    · exact hx x z
    · simp at z; omega, fun _ => by rw [lastI_snoc]; decide⟩
  have nd : Nrm p (pder p (xs ++ [1])) := trim_nrm hp.pos _
  have g := lc_ok hp nr nd
  have G := gcd_ok hp nr nd (.inl (by simp))
  refine ⟨hp, nr, by simp; omega, by rw [lastI_snoc], ?_⟩
  obtain ⟨u, v, hb⟩ := g.bz
  obtain ⟨x, nx, h1⟩ := G.da
  obtain ⟨y, ny, h2⟩ := G.db
  have hne : lcF p (xs ++ [1]) (pder p (xs ++ [1])) ≠ [] := fun z => by rw [z] at hc; simp at hc
  have hd : Dvd p (pgcd p (xs ++ [1]) (pder p (xs ++ [1]))) (lcF p (xs ++ [1]) (pder p (xs ++ [1]))) := by
    refine ⟨padd p (pmul p u x) (pmul p v y), trim_nrm hp.pos _, ?_⟩
    rw [hb, h1, h2]
    simp only [ps_padd, ps_pmul]
    grind
  have := dvd_len hp g.nr G.nr hne hd
  rw [hc] at this
  have hm := G.mo
  have hn := G.ne
  show pgcd p (xs ++ [1]) (pder p (xs ++ [1])) = [1]
  generalize pgcd p (xs ++ [1]) (pder p (xs ++ [1])) = w at *
  match w, hn with
  | [a], _ =>
    have : a = 1 := hm
    rw [this]
  | a :: b :: r, _ => simp at this
def p__law_right78 (ds : List D) (d : D) : Prop := ds = [] ∧ d = .bl true
section
variable {X : Cx}
theorem call_reprI : CallR X (.builtin "repr") (fun xs H Q => ∃ i : Int, xs = [.int i] ∧ (0 ≤ i ∧ i < 2 ^ 64) ∧ Q (.str (toString i)) H) := by
  intro pins s σ H xs us Q I r h
  obtain ⟨b, rfl, hb, q⟩ := h
  obtain ⟨u, rfl, ru⟩ := vals1 r
  obtain ⟨t, rfl⟩ := ru
  refine PySem.P.repr_of_int ?_ ⟨.str _, H, I.tok _, ⟨_, rfl⟩, q⟩
  have : b.natAbs < 2 ^ 64 := by omega
  by_cases z : b.natAbs = 0
  · rw [z]; decide
  · exact Nat.lt_trans (Nat.log2_lt z |>.mpr this) (by decide)
end
theorem curve0A {p : Int} (hp : Pm p) : CvOk (p, [0, 1]) := by
  have := hp.ge
  have h : p = 3 ∨ p = 5 ∨ p = 7 ∨ p = 11 ∨ p = 13 := by unfold Pm at hp; omega
  refine ⟨hp, ⟨fun x hx => by simp at hx; omega, fun _ => by show (1 : Int) ≠ 0; decide⟩, .inl rfl, rfl, ?_⟩
  rcases h with rfl | rfl | rfl | rfl | rfl <;> decide +kernel
end Cw
set_option maxHeartbeats 4000000
namespace Cw
open PySem PySem.Spec PyProof.Rows L2
theorem reps_int {K : Fg} {F : Hp} : ∀ {l : List Int} {vs : List V}, Reps K F (l.map D.int) vs → vs = l.map V.int
  | [], _, h => h
  | x :: l, _, h => by
    obtain ⟨v, r, rfl, h1, h2⟩ := h
    cases h1
    rw [reps_int h2]; rfl
theorem int_reps {K : Fg} {F : Hp} : ∀ l : List Int, Reps K F (l.map D.int) (l.map V.int)
  | [] => rfl
  | x :: l => Reps.cons rfl (int_reps l)
/-- the k-th list of us -/
def rowN (A : List (List Int)) (i k : Nat) : List V := (A[k]?.getD []).map V.int ++ (if k < i then [V.non] else [])
def rowA (A : List (List Int)) : List D := A.map fun r => D.lst (r.map D.int ++ [.non])
structure MidOk (A : List (List Int)) (us : List V) (p g : Addr) (H1 Hn : Hp) (i : Nat) : Prop where
  hh : Same H1 Hn
  hp : Hn p = some (.lst us)
  rw : ∀ k, k < A.length → ∃ q, us[k]? = some (.ref q) ∧ Hn q = some (.lst (rowN A i k))
theorem reps_rows {K : Fg} {F H : Hp} (s : Same F H) : ∀ {A : List (List Int)} {us : List V}, Reps K F (A.map inD) us → us.length = A.length ∧ ∀ k, k < A.length → ∃ q, us[k]? = some (.ref q) ∧ H q = some (.lst (rowN A 0 k))
  | [], _, h => by
    cases (show _ = [] from h)
    exact ⟨rfl, fun k hk => absurd hk (Nat.not_lt_zero _)⟩
  | r :: A, _, h => by
    obtain ⟨v, us, rfl, h1, h2⟩ := h
    obtain ⟨l, ih⟩ := reps_rows s h2
    refine ⟨by rw [List.length_cons, List.length_cons, l], fun k hk => ?_⟩
    match k with
    | 0 =>
      obtain ⟨q, vs, rfl, e1, e2⟩ := h1
      refine ⟨q, rfl, ?_⟩
      rw [s _ _ e1, reps_int e2]
      unfold rowN
      simp
    | k + 1 =>
      obtain ⟨q, e1, e2⟩ := ih k (by rw [List.length_cons] at hk; omega)
      refine ⟨q, by rw [List.getElem?_cons_succ]; exact e1, ?_⟩
      rw [e2]
      unfold rowN
      simp
theorem rows_reps {K : Fg} {F : Hp} : ∀ {A : List (List Int)} {us : List V}, us.length = A.length → (∀ k, k < A.length → ∃ q, us[k]? = some (.ref q) ∧ F q = some (.lst (rowN A A.length k))) → Reps K F (rowA A) us
  | [], us, h, _ => by
    cases us with
    | nil => rfl
    | cons a b => simp at h
  | r :: A, us, h, k => by
    cases us with
    | nil => simp at h
    | cons v us =>
      obtain ⟨q, e1, e2⟩ := k 0 (by simp)
      cases e1
      refine ⟨.ref q, us, rfl, ⟨q, _, rfl, e2, ?_⟩, rows_reps (by simpa using h) fun j hj => ?_⟩
      · unfold rowN
        rw [if_pos (by simp)]
        exact (int_reps r).app (Reps.one rfl)
      · obtain ⟨q', e1', e2'⟩ := k (j + 1) (by simpa using hj)
        refine ⟨q', by simpa using e1', ?_⟩
        rw [e2']
        unfold rowN
        simp only [List.getElem?_cons_succ, List.length_cons]
        by_cases z : j < A.length
        · rw [if_pos z, if_pos (by omega)]
        · rw [if_neg z, if_neg (by omega)]
theorem set_get {σ : L2.St} {j : Nat} {v : Option V} (h : σ[j]? = some v) : σ.set j v = σ := List.ext_getElem? fun k => by
  by_cases q : j = k
  · subst q
    rw [h, List.getElem?_set_self (List.getElem?_eq_some_iff.mp h).1]
  · rw [List.getElem?_set_ne q]
section
variable {K : Fg} {g : Addr} {i : Nat} {G : Ctx} {n : Nat} {t u r : TS} {T1 T2 : TT} {tr : TA} {t1 t2 : TS} {ds : List D} {A : List (List Int)}
theorem sg_ifX {b : Bool} {N : Nat} {tt : TT} {R : D → Prop} (hb : EvB K tt G b) (k1 : b = true → StG K g i (tSeq t r) G n N R) (k2 : b = false → StG K g i (tSeq u r) G n N R) : StG K g i (tSeq (tIfS tt t u) r) G n N R := fun F0 H0 F H σ E s hi hg q => by
  obtain ⟨x, y, z, e1, e2⟩ := id hg
  refine hb F0 H0 F H σ s.dl _ fun F1 H1 t1 => ?_
  obtain ⟨a, b'⟩ := t1.dl (none_of_del s.fh) e1
  cases b with
  | true => exact iteT (k1 rfl F0 H0 F1 H1 σ E (s.step a) hi ⟨x, y, z, b', e2⟩ q)
  | false => exact iteF (k2 rfl F0 H0 F1 H1 σ E (s.step a) hi ⟨x, y, z, b', e2⟩ q)
/-- a test that does not hold, at the end of a loop's body -/
theorem sgn_ifF {tt : TT} {O : Ctx → Prop} (hb : EvB K tt G false) (o : ∃ G', O G' ∧ Weak G G') : StGN K g i (tIfS tt t tNext) G n n O := fun F0 H0 F H σ E s hi hg q => by
  obtain ⟨x, y, z, e1, e2⟩ := id hg
  refine hb F0 H0 F H σ s.dl _ fun F1 H1 t1 => ?_
  obtain ⟨a, b'⟩ := t1.dl (none_of_del s.fh) e1
  obtain ⟨G', o, w⟩ := o
  exact iteF (q σ F1 H1 G' o a.ff ((s.step a).weak w) hi ⟨x, y, z, b', e2⟩)
/-- found = f(..), a new list of new lists; asked, each of its lists gets None, asked again, it gets None itself -/
theorem sg_mid {N j l : Nat} {P : List D → List D → Prop} {E' : XK} {R : D → Prop} (hji : j ≠ i) (hli : l ≠ i) (hjl : l ≠ j) (gj : G[j]? = some .un) (gl : G[l]? = some .un) (hx : EvA K tr G ds) (hP : P ds (A.map inD)) (hA : A.length < sizeLine) (hr : ∀ a ∈ A, a.length < sizeLine)
    (h1 : EvB K T1 (G.set j (.val (lsD inD A))) false) (h2 : EvB K T2 (G.set j (.val (.lst (rowA A)))) false) (k : StG K g i r G n N R) :
    StG K g i (tSeq (tAsg (tCall (spX K P) [] E' tr) (gName j)) (tSeq (tIfS T1 t1 tNext) (tSeq (tFor (iList K (tVar j)) (gName l) (tDrop (tBM K "list" rAppend (tVar l) (tCons (tC .non) tNil)))) (tSeq (tIfS T2 t2 tNext) (tSeq (tDrop (tBM K "list" rAppend (tVar j) (tCons (tC .non) tNil))) r))))) G n N R := fun F0 H0 F H σ E s hi hg q => by
  obtain ⟨x, y, z, e1, e2⟩ := id hg
  refine hx F0 H0 F H σ s.dl _ fun vs F1 H1 st1 rp1 => ⟨F1, ds, A.map inD, st1.fh, by rw [List.append_nil]; exact rp1, hP, fun p us F2 H2 st2 hp1 hp2 hp3 ru fr => ?_⟩
  have gH1 : H1 g = some _ := st1.hh _ _ e1
  have pg : p ≠ g := fun z => by subst z; rw [hp1] at gH1; cases gH1
  have hHp : H p = none := st1.hh.free hp1
  have stA : Step F H (upd F2 p (.lst us)) H2 := (st1.trans st2).pub hHp hp2 hp3
  obtain ⟨dA, gA⟩ := stA.dl (none_of_del s.fh) e1
  have sA := (s.step dA).set (i := j) (d := lsD inD A) (v := .ref p) ⟨p, us, rfl, upd_same, Reps.mono (same_new hp2) _ _ ru⟩
  refine h1 F0 H0 _ H2 _ sA.dl _ fun F3 H3 st3 => iteF ?_
  obtain ⟨usl, rows0⟩ := reps_rows (st2.fh) ru
  have gj' : (G.set j .un) = G := List.ext_getElem? fun m => by
    by_cases q : j = m
    · subst q; rw [List.getElem?_set_self (List.getElem?_eq_some_iff.mp gj).1, gj]
    · rw [List.getElem?_set_ne q]
  have lj : j < σ.length := by rw [s.len]; exact (List.getElem?_eq_some_iff.mp gj).1
  have ll : l < σ.length := by rw [s.len]; exact (List.getElem?_eq_some_iff.mp gl).1
  have m0 : MidOk A us p g H1 H3 0 := ⟨st2.hh.trans st3.hh, st3.hh _ _ hp3, fun k hk => by
    obtain ⟨q, a, b⟩ := rows0 k hk
    exact ⟨q, a, st3.hh _ _ b⟩⟩
  have base : ∀ {σ' : L2.St} {F' H' : Hp}, SOk K F0 H0 F (del H g) σ' G → Step F (del H g) F' H' → SOk K F0 H0 F' H' σ' G := fun s t => s.step t
  have s0 : SOk K F0 H0 F (del H g) (σ.set j (some (.ref p))) G := s.setUn _ gj
  refine ⟨.ref p, List.getElem?_set_self lj, p, rfl, ⟨us, .inl (.inl m0.hp)⟩, fun idx m σ' H' => m = A.length - idx ∧ idx ≤ A.length ∧ MidOk A us p g H1 H' idx ∧ SOk K F0 H0 F (del H g) σ' G ∧ σ'[j]? = some (some (.ref p)) ∧ σ'[i]? = some (some (.ref g)), ⟨A.length, rfl, Nat.zero_le _, m0, s0, List.getElem?_set_self lj, by rw [List.getElem?_set_ne hji]; exact hi⟩, ?_⟩
  rintro idx m σ' H' ⟨rfl, hidx, mk, s', sj, si⟩
  have sq : SqL K H' p us := .inl (.inl mk.hp)
  by_cases hlt : idx < A.length
  · obtain ⟨qa, u1, u2⟩ := mk.rw idx hlt
    refine .inr ⟨⟨us, _, sq, u1⟩, fun σ2 H2 => MidOk A us p g H1 H2 (idx + 1) ∧ SOk K F0 H0 F (del H g) σ2 G ∧ σ2[j]? = some (some (.ref p)) ∧ σ2[i]? = some (some (.ref g)), fun σ2 H2 ⟨a, b, c, d⟩ => ⟨A.length - (idx + 1), by omega, rfl, hlt, a, b, c, d⟩, fun y H5 hy => ?_⟩
    obtain ⟨rfl, hy⟩ := hy
    have := hy us sq
    rw [u1] at this
    cases this
    have ll' : l < σ'.length := by rw [s'.len]; exact (List.getElem?_eq_some_iff.mp gl).1
    refine ⟨.ref qa, List.getElem?_set_self ll', .inl ⟨rfl, _, .inl (.inl u2)⟩, qa, _, .non, rfl, rfl, u2, ?_, ?_⟩
    · unfold rowN
      rw [if_neg (Nat.lt_irrefl _), List.append_nil, List.length_map, List.getElem?_eq_getElem hlt]
      exact hr _ (List.getElem_mem hlt)
    · have hq1 : H1 qa = none := by
        obtain ⟨q', eq', hq'⟩ := fr.2 (.ref qa) (List.mem_of_getElem? u1)
        cases eq'
        exact hq'
      have hqp : qa ≠ p := fun z => by
        subst z
        obtain ⟨w0, a0, b0⟩ := rows0 idx hlt
        rw [u1] at a0
        cases a0
        have hm : F2 qa ≠ none := mem_rep ru (fun e he => by
          obtain ⟨r, _, rfl⟩ := List.mem_map.mp he
          exact ⟨_, rfl⟩) (List.mem_of_getElem? u1)
        exact hm hp2
      refine ⟨⟨fun b o hb => ?_, ?_, fun k hk => ?_⟩, s'.setUn _ gl, by rw [List.getElem?_set_ne hjl]; exact sj, by rw [List.getElem?_set_ne hli]; exact si⟩
      · have nb : b ≠ qa := fun z => by subst z; rw [hq1] at hb; cases hb
        rw [upd_ne nb]
        exact mk.hh _ _ hb
      · rw [upd_ne (Ne.symm hqp)]; exact mk.hp
      · obtain ⟨qk, a, b⟩ := mk.rw k hk
        refine ⟨qk, a, ?_⟩
        by_cases z : qk = qa
        · subst z
          have hk2 : k = idx := by
            have h1 : k < us.length := by rw [usl]; exact hk
            refine (List.getElem?_inj h1 fr.1).mp ?_
            rw [a, u1]
          subst hk2
          rw [upd_same]
          unfold rowN
          rw [if_neg (Nat.lt_irrefl _), if_pos (Nat.lt_succ_self _), List.append_nil]
        · rw [upd_ne z, b]
          have hne : k ≠ idx := fun e => by subst e; rw [a] at u1; cases u1; exact z rfl
          unfold rowN
          by_cases y : k < idx
          · rw [if_pos y, if_pos (by omega)]
          · rw [if_neg y, if_neg (by omega)]
  · have he : idx = A.length := by omega
    subst he
    refine .inl ⟨⟨us, sq, by rw [usl]; exact Nat.le_refl _⟩, ?_⟩
    have usn : ∀ {q : Addr}, V.ref q ∈ us → H1 q = none := fun {q} hq => by
      obtain ⟨q', e, h⟩ := fr.2 _ hq
      cases e
      exact h
    have hHH : Same H H' := st1.hh.trans mk.hh
    have gH' : H' g = _ := hHH _ _ e1
    let S : Addr → Prop := fun a => a = p ∨ V.ref a ∈ us
    have S0 : ∀ a, S a → H1 a = none := fun a h => h.elim (fun e => e ▸ hp1) usn
    let F4 : Hp := fun a => @ite _ (S a) (Classical.propDecidable _) (H' a) (F a)
    have F4s : ∀ a, S a → F4 a = H' a := fun a h => @if_pos _ (Classical.propDecidable _) h _ _ _
    have F4n : ∀ a, ¬ S a → F4 a = F a := fun a h => @if_neg _ (Classical.propDecidable _) h _ _ _
    have st4 : Step F (del H g) F4 (del H' g) := by
      refine ⟨fun b o hb => ?_, fun b o hb => ?_, fun b o hb => ?_, fun b hb => ?_⟩
      · have : ¬ S b := fun z => by
          have := st1.hh _ _ (del_same _ _ (s.fh _ _ hb))
          rw [S0 b z] at this
          cases this
        rw [F4n b this]; exact hb
      · have nb : b ≠ g := fun z => by subst z; rw [del_x] at hb; cases hb
        rw [del_ne nb] at hb ⊢
        exact hHH _ _ hb
      · by_cases z : S b
        · rw [F4s b z] at hb
          have nb : b ≠ g := fun y => by subst y; have := S0 b z; rw [gH1] at this; cases this
          rw [del_ne nb]; exact hb
        · rw [F4n b z] at hb
          have h5 := s.fh _ _ hb
          have nb : b ≠ g := fun z => by subst z; rw [del_x] at h5; cases h5
          rw [del_ne nb] at h5 ⊢
          exact hHH _ _ h5
      · by_cases z : S b
        · refine .inr (.inl ?_)
          have := st1.hh.free (S0 b z)
          by_cases nb : b = g
          · subst nb; exact del_x
          · rw [del_ne nb]; exact this
        · rw [F4n b z] at hb; exact .inl hb
    have sB := (base s' st4).set (i := j) (d := .lst (rowA A)) (v := .ref p) ⟨p, us, rfl, by rw [F4s p (.inl rfl)]; exact mk.hp, rows_reps usl fun k hk => by
      obtain ⟨qk, a, b⟩ := mk.rw k hk
      exact ⟨qk, a, by rw [F4s qk (.inr (List.mem_of_getElem? a))]; exact b⟩⟩
    rw [set_get sj] at sB
    refine h2 F0 H0 _ H' _ sB.dl _ fun F5 H5 st5 => iteF ?_
    have hp5 : H5 p = some (.lst us) := st5.hh _ _ mk.hp
    refine ⟨.ref p, sj, .inl ⟨rfl, _, .inl (.inl hp5)⟩, p, us, .non, rfl, rfl, hp5, by rw [usl]; exact hA, ?_⟩
    have h16 : Same H1 (upd H5 p (.lst (us ++ [.non]))) := fun b o hb => by
      have nb : b ≠ p := fun z => by subst z; rw [hp1] at hb; cases hb
      rw [upd_ne nb]
      exact st5.hh _ _ (mk.hh _ _ hb)
    have hH6 := st1.hh.trans h16
    refine k F0 H0 F _ σ' E (base s' ⟨Same.refl _, fun b o hb => ?_, fun b o hb => ?_, fun b hb => .inl hb⟩) si ⟨x, y, z, hH6 _ _ e1, e2⟩ q
    · have nb : b ≠ g := fun z => by subst z; rw [del_x] at hb; cases hb
      rw [del_ne nb] at hb ⊢
      exact hH6 _ _ hb
    · have h5 := s.fh _ _ hb
      have nb : b ≠ g := fun z => by subst z; rw [del_x] at h5; cases h5
      rw [del_ne nb] at h5 ⊢
      exact hH6 _ _ h5
/-- a loop of m turns that draws; the turn is told -/
theorem sgn_forX {m k j : Nat} {body : TS} {ta : TE} {O : Ctx → Prop} (hm : (m : Int) < 2 ^ 62) (hj : j ≠ i) (hta : EvD K ta G (.int m)) (h0 : O G) (hb : ∀ (G' : Ctx) (idx n' : Nat), idx < m → O G' → n' + k ≤ n + m * k → StGN K g i body (G'.set j (.val (.int idx))) n' (n' + k) O) :
    StGN K g i (tFor (iRng1 (tCons ta tNil)) (gName j) body) G n (n + m * k) O := fun F0 H0 F H σ E s hi hg q => by
  refine eg_ev (K := K) (g := g) (i := i) (n := n) hta F0 H0 F H σ s hi hg _ fun v d F1 H1 pd t1 g1 r1 => ?_
  subst pd
  cases r1
  have s := s.step t1
  have hg := g1
  have q : ∀ (σ' : L2.St) (F' H' : Hp) (G' : Ctx), O G' → Same F1 F' → SOk K F0 H0 F' (del H' g) σ' G' → σ'[i]? = some (some (V.ref g)) → GHas H' g (n + m * k) → E.nx σ' H' := fun σ' F' H' G' o sf => q σ' F' H' G' o (t1.ff.trans sf)
  generalize F1 = F at s hg q
  generalize H1 = H at s hg
  refine ⟨(m : Int), rfl, by omega, hm, ?_⟩
  rw [Int.toNat_natCast]
  refine ⟨fun idx mm σ' H' => mm = m - idx ∧ idx ≤ m ∧ ∃ F' G', O G' ∧ Same F F' ∧ SOk K F0 H0 F' (del H' g) σ' G' ∧ σ'[i]? = some (some (.ref g)) ∧ GHas H' g (n + idx * k), ⟨m, rfl, Nat.zero_le _, F, G, h0, Same.refl _, s, hi, by rw [Nat.zero_mul]; exact hg⟩, ?_⟩
  rintro idx mm σ' H' ⟨rfl, hidx, F', G', o, sf, s', hi', hg'⟩
  by_cases hlt : idx < m
  · have hk : n + idx * k + k ≤ n + m * k := by
      have := Nat.mul_le_mul_right k hlt
      rw [Nat.succ_mul] at this
      omega
    refine .inr ⟨hlt, fun σ2 H2 => ∃ F' G', O G' ∧ Same F F' ∧ SOk K F0 H0 F' (del H2 g) σ2 G' ∧ σ2[i]? = some (some (.ref g)) ∧ GHas H2 g (n + (idx + 1) * k), fun σ2 H2 ⟨F2, G2, p1, p2, p3, p4, p5⟩ => ⟨m - (idx + 1), by omega, rfl, hlt, F2, G2, p1, p2, p3, p4, p5⟩, ?_⟩
    rintro x H2 ⟨rfl, hx⟩
    rw [Int.zero_add] at hx
    subst hx
    refine hb G' idx (n + idx * k) hlt o hk F0 H0 F' H2 _ _ (s'.set rfl) (by rw [List.getElem?_set_ne hj]; exact hi') hg' fun σ3 F3 H3 G3 o3 f3 s3 hi3 hg3 => ?_
    exact ⟨F3, G3, o3, sf.trans f3, s3, hi3, by rw [Nat.succ_mul, ← Nat.add_assoc]; exact hg3⟩
  · have e : idx = m := by omega
    subst e
    exact .inl ⟨Nat.le_refl _, q σ' F' H' G' o sf s' hi' hg'⟩
theorem ev_chainI {a b c : Int} {ta tb tc : TE} (ha : EvD K ta G (.int a)) (hb : EvD K tb G (.int b)) (hc : EvD K tc G (.int c)) : EvD K (tChain (rI0 fun i j => .bl (decide (i ≤ j))) (rI0 fun i j => .bl (decide (i ≤ j))) ta tb tc) G (.bl (decide (a ≤ b) && decide (b ≤ c))) := fun F0 H0 F H σ s Q q =>
  ha F0 H0 F H σ s _ fun v F1 H1 t1 r1 => hb F0 H0 F1 H1 σ (s.step t1) _ fun w F2 H2 t2 r2 => by
    cases r1
    cases r2
    refine ⟨a, b, rfl, rfl, _, rfl, ?_⟩
    by_cases z : a ≤ b
    · rw [if_pos (decide_eq_true z)]
      refine hc F0 H0 F2 H2 σ ((s.step t1).step t2) _ fun u F3 H3 t3 r3 => ?_
      cases r3
      refine ⟨b, c, rfl, rfl, q _ F3 H3 ((t1.trans t2).trans t3) ?_⟩
      rw [decide_eq_true z]; rfl
    · rw [if_neg (by simpa using z)]
      refine q _ F2 H2 (t1.trans t2) ?_
      rw [decide_eq_false z]; rfl
theorem ev_reprI {a : Int} {ta : TE} (h : 0 ≤ a ∧ a < 2 ^ 64) (ha : EvD K ta G (.int a)) : EvD K (tCB (fun xs H Q => ∃ i : Int, xs = [V.int i] ∧ (0 ≤ i ∧ i < 2 ^ 64) ∧ Q (.str (toString i)) H) (tCons ta tNil)) G (.str (toString a)) := ev_cb (ea_cons ha ea_nil) fun F H vs s hx Q q => by
  obtain ⟨v, r, rfl, h1, h3⟩ := hx
  cases h1
  cases h3
  exact ⟨a, rfl, h, q _ F H (Step.refl s) rfl⟩
theorem ev_eqS {x : Str} {ta tb : TE} (ha : EvD K ta G (.str x)) (hb : EvD K tb G (.str x)) : EvD K (tOp rEq ta tb) G (.bl true) := ev_op ha hb fun F H u v s hx hy Q q => by
  cases hx
  cases hy
  exact ⟨rfl, q _ F H (Step.refl s) (by show V.bl _ = V.bl _; simp)⟩
theorem ev_ckX {P : List D → List D → Prop} {E' : XK} {es : List D} (h : EvA K tr G ds) (p : P ds es) : EvD K (tCallKw (spX K P) E' tr) G (.lst es) := ev_pub fun F0 H0 F H σ s Q q =>
  h F0 H0 F H σ s _ fun vs F1 H1 t1 r1 => ⟨F1, ds, es, t1.fh, r1, p, fun p us F2 H2 t2 h1 h2 h3 r2 _ => q p us F2 H2 (t1.trans t2) (t1.hh.free h1) h2 h3 r2⟩
end
end Cw
set_option maxHeartbeats 4000000
namespace Cw
open PySem PySem.Spec PyProof.Rows L2
open C8 (Cal Met Mak pe_c pe_mk pe_mt pe_mt0 pe_gc InsC call_isC)
def top (i : Nat) : Stmt := PySem.Challenge.pw_curvewords_k78_whole_matrices_of_descent.main.body.getD i (.Pass ⟨0, 0, 0, 0⟩)
structure Fx (K : Fg) (mg : Str → Option Value) : Prop where
  b_ValueError : mg "ValueError" = none
  b_bool : mg "bool" = none
  b_dict : mg "dict" = none
  b_enumerate : mg "enumerate" = none
  b_int : mg "int" = none
  b_isinstance : mg "isinstance" = none
  b_len : mg "len" = none
  b_list : mg "list" = none
  b_max : mg "max" = none
  b_min : mg "min" = none
  b_range : mg "range" = none
  b_repr : mg "repr" = none
  b_sorted : mg "sorted" = none
  b_sum : mg "sum" = none
  b_super : mg "super" = none
  b_tuple : mg "tuple" = none
  b_zip : mg "zip" = none
  g_PRIMES : ∃ u, mg "PRIMES" = some u ∧ RelV (.ref (He.ga K "PRIMES")) u
  t_PRIMES : ∀ H, SqT K H (He.ga K "PRIMES") [V.int 3, V.int 5, V.int 7, V.int 11, V.int 13]
  g_MOST_POWER : ∃ u, mg "MOST_POWER" = some u ∧ RelV (.int 60) u
  g_Curve : ∃ u, mg "Curve" = some u ∧ RelV (.ref (He.ga K "Curve")) u
  ic_Curve : C8.InsC K (He.ga K "Curve")
  n_Curve_polynomial : NoAttr K (He.ga K "Curve") "_polynomial"
  n_Curve_prime : NoAttr K (He.ga K "Curve") "_prime"
  g_Function : ∃ u, mg "Function" = some u ∧ RelV (.ref (He.ga K "Function")) u
  ic_Function : C8.InsC K (He.ga K "Function")
  n_Function_curve : NoAttr K (He.ga K "Function") "_curve"
  n_Function_parts : NoAttr K (He.ga K "Function") "_parts"
end Cw
set_option maxHeartbeats 4000000
namespace Cw
open PySem PySem.Spec PyProof.Rows L2
open C8 (Cal Met Mak pe_c pe_mk pe_mt pe_mt0 pe_gc InsC call_isC)
section
variable {P : Program} {w : World} {K : Fg} {mg : Str → Option Value} {base : Heap} {f : Addr} {fd : FuncData}
abbrev s_inverse : Stmt := top 14
abbrev nm_inverse : List Str := ["p", "number", "low"]
theorem sc_inverse : FnScope nm_inverse ["p", "number"] (defScope s_inverse) := ⟨rfl, rfl, rfl, by decide +kernel, rfl, by decide +kernel, by decide +kernel⟩
theorem ok_inverse (fx : Fx K mg) (F : FunD K "inverse" "inverse" (defArgs s_inverse) (defBody s_inverse) (defScope s_inverse) [] [] f fd) : FnOk P w K mg base CX0 1 f fd ["p", "number"] (spD K p_inverse) := by
  refine F.ok sc_inverse (spD_len (n := 2) ?_) (fun cdv A outer s H vs Q E hr h => ⟨_, PSs.nox ((pss_one (ps_ret (pe_ix (ixl K) (pe_lc (own := [("low", 2)]) rfl sc_inverse.nd (pi_range2 (by rfl) fx.b_range (pa_cons pe_int (pa_cons (pv 0) pa_nil))) (blkOk_by (N := nm_inverse) (sc := defScope s_inverse) (by decide +kernel)) (fun _ _ _ _ _ => (pg_name (i := 2) sc_inverse.nd rfl (by first | exact Or.inl rfl | exact Or.inr rfl))) (fun _ _ _ _ _ => (pts_one (pt_cmpR op_eq (pe_op op_mod (pe_op op_mul (pv 2) (pv 1)) (pv 0)) pe_int (nomark _)))) (fun _ _ _ _ _ => (pv 2))) pe_int (fun _ _ => rfl))))), run_def (N := nm_inverse) (fun ds d p => ?_) vs H Q E h⟩)
  · rintro ds d ⟨_, _, rfl, _⟩; rfl
  ·
    obtain ⟨p, n, rfl, hp, hn, hb, rfl⟩ := p
    have hLM : LM = 1000000 := rfl
    show StD K _ [.val (.int p), .val (.int n), .un] _
    have hne : ((rangeI 1 (p - 1).toNat).filter fun low => decide (low * n % p = 1)) ≠ [] := inv_ne hp hn
    refine st_ret ((ev_ixI (by decide) (by have := List.length_pos_iff.mpr hne; rw [List.map_id'] ; omega) (ev_pub (en_lcF D.int (fun low => decide (low * n % p = 1)) (fun low => low) (by rw [rangeI_len]; have := hp.le; exact LMs (by omega)) (it_rng2 (m := 1) (n := p) (by have := hp.le; have := hp.pos; omega) ev_int (ev_var rfl)) fun pre x post e => ⟨_, _, tg_name, fun _ h => h, eb_test (ev_eqI (ev_mod hp.pos (ev_mulS (.inr hb) (ev_var rfl) (ev_var rfl)) (ev_var rfl)) ev_int), fun _ => ev_var rfl⟩)) ev_int).cast ?_)
    rw [List.map_id']
    unfold pinv
    cases hf : ((rangeI 1 (p - 1).toNat).filter fun low => decide (low * n % p = 1)) with
    | nil => exact absurd hf hne
    | cons x xs => rfl
abbrev s_trimmed : Stmt := top 15
abbrev nm_trimmed : List Str := ["p", "numbers", "found", "number"]
theorem sc_trimmed : FnScope nm_trimmed ["p", "numbers"] (defScope s_trimmed) := ⟨rfl, rfl, rfl, by decide +kernel, rfl, by decide +kernel, by decide +kernel⟩
theorem ok_trimmed (fx : Fx K mg) (F : FunD K "trimmed" "trimmed" (defArgs s_trimmed) (defBody s_trimmed) (defScope s_trimmed) [] [] f fd) : FnOk P w K mg base CX0 1 f fd ["p", "numbers"] (spD K p_trimmed) := by
  refine F.ok sc_trimmed (spD_len (n := 2) ?_) (fun cdv A outer s H vs Q E hr h => ⟨_, PSs.nox ((pss_cons (ps_setLc (i := 2) (own := [("number", 3)]) rfl sc_trimmed.nd rfl rfl (sw_true rfl rfl rfl (by decide +kernel)) (pil K (pv 1)) (blkOk_by (N := nm_trimmed) (sc := defScope s_trimmed) (by decide +kernel)) (fun _ _ _ _ _ => (pg_name (i := 3) sc_trimmed.nd rfl (by first | exact Or.inl rfl | exact Or.inr rfl))) (fun _ _ _ _ _ => pts_nil) (fun _ _ _ _ _ => (pe_op op_mod (pe_callTy call_int1 (by rfl) fx.b_int (by decide +kernel) (pa_cons (pv 3) pa_nil)) (pv 0))))
      (pss_cons (ps_while PassesOwn.never (PW.pt (pw_and (pt_cmpR (opNe K hr.units) (pv 2) (pe_lst pa_nil) (nomark _)) (pw_and1 (pt_cmpR op_eq (pe_ix (ixl K) (pv 2) (pe_un un_neg pe_int) (fun _ _ => rfl)) pe_int (nomark _)))))
      (pss_one (ps_expr (pe_bm0 PySem.F.plainAttrs_list PySem.F.slot_list_pop PySem.F.type_list_pop mt_pop (pv 2)))))
      (pss_one (ps_ret (pv 2)))))), run_def (N := nm_trimmed) (fun ds d p => ?_) vs H Q E h⟩)
  · rintro ds d ⟨_, _, rfl, _⟩; rfl
  ·
    obtain ⟨p, ns, rfl, hp, hl, rfl⟩ := p
    show StD K _ [.val (.int p), .val (inD ns), .un, .un] _
    refine st_seq (st_setN (en_lcT D.int (fun x => x % p) (Nat.le_trans hl (by decide)) (it_list (ev_var rfl)) fun pre x post e => ⟨_, _, tg_name, fun _ h => h, ev_mod hp (ev_intc (ev_var rfl)) (ev_var rfl)⟩)) ?_
    refine st_seq (st_while (S := List Int) (Gs := fun l => [.val (.int p), .val (inD ns), .own (l.map D.int), .un]) (Iv := fun _ => True) (μ := List.length) (f := List.dropLast) (cd := fun l => !decide (l = []) && decide (lastI l = 0)) (2 * LM) (s0 := ns.map (· % p)) (by simpa using hl) trivial ?c ?d) ?_
    case c =>
      intro l _
      exact eb_and (eb_test (ev_ne0 (eh_own rfl))) fun h => eb_test (ev_eqI (ev_ixO rfl (at_last (by simpa using h)) ev_m1) ev_int)
    case d =>
      intro l _ h
      have hne : l ≠ [] := by
        simp at h
        exact h.1
      refine ⟨(st_popI (K := K) (G := [.val (.int p), .val (inD ns), .own (l.map D.int), .un]) (i := 2) rfl hne).lp, trivial, ?_⟩
      rw [List.length_dropLast]
      have := List.length_pos_iff.mpr hne
      omega
    rw [drop_loop _ _ (by simpa using hl)]
    exact st_retO rfl
abbrev s_added : Stmt := top 16
abbrev nm_added : List Str := ["p", "one", "other", "size", "low", "high", "at"]
theorem sc_added : FnScope nm_added ["p", "one", "other"] (defScope s_added) := ⟨rfl, rfl, rfl, by decide +kernel, rfl, by decide +kernel, by decide +kernel⟩
theorem ok_added (fx : Fx K mg) (c_trimmed : Cal P w K mg base 1 "trimmed" (spD K p_trimmed) []) (F : FunD K "added" "added" (defArgs s_added) (defBody s_added) (defScope s_added) [] [] f fd) : FnOk P w K mg base CX0 2 f fd ["p", "one", "other"] (spD K p_added) := by
  refine F.ok sc_added (spD_len (n := 3) ?_) (fun cdv A outer s H vs Q E hr h => ⟨_, PSs.nox ((pss_cons (ps_set (i := 3) sc_added.nd rfl (by first | exact Or.inl rfl | exact Or.inr rfl) (pe_callB (call_max2 rfl) (by rfl) fx.b_max (by decide +kernel) (pa_cons (pe_callB (lenS K) (by rfl) fx.b_len (by decide +kernel) (pa_cons (pv 1) pa_nil)) (pa_cons (pe_callB (lenS K) (by rfl) fx.b_len (by decide +kernel) (pa_cons (pv 2) pa_nil)) pa_nil))))
      (pss_cons (ps_asg (pe_tup (pa_cons (pe_op op_cat (pv 1) (pe_op op_rep (pe_lst (pa_cons pe_int pa_nil)) (pe_op op_sub (pv 3) (pe_callB (lenS K) (by rfl) fx.b_len (by decide +kernel) (pa_cons (pv 1) pa_nil))))) (pa_cons (pe_op op_cat (pv 2) (pe_op op_rep (pe_lst (pa_cons pe_int pa_nil)) (pe_op op_sub (pv 3) (pe_callB (lenS K) (by rfl) fx.b_len (by decide +kernel) (pa_cons (pv 2) pa_nil))))) pa_nil))) (pgt (n := 2) K rfl (pgs_cons (pg_name (i := 4) sc_added.nd rfl (by first | exact Or.inl rfl | exact Or.inr rfl)) (pgs_cons (pg_name (i := 5) sc_added.nd rfl (by first | exact Or.inl rfl | exact Or.inr rfl)) pgs_nil))))
      (pss_one (ps_ret (pe_c c_trimmed hr (by decide) rfl (pa_cons (pv 0) (pa_cons (pe_lc (own := [("at", 6)]) rfl sc_added.nd (pi_range1 (by rfl) fx.b_range (pa_cons (pv 3) pa_nil)) (blkOk_by (N := nm_added) (sc := defScope s_added) (by decide +kernel)) (fun _ _ _ _ _ => (pg_name (i := 6) sc_added.nd rfl (by first | exact Or.inl rfl | exact Or.inr rfl))) (fun _ _ _ _ _ => pts_nil) (fun _ _ _ _ _ => (pe_op op_add (pe_ix (ixl K) (pv 4) (pv 6) (fun _ _ => rfl)) (pe_ix (ixl K) (pv 5) (pv 6) (fun _ _ => rfl))))) pa_nil)))))))), run_def (N := nm_added) (fun ds d p => ?_) vs H Q E h⟩)
  · rintro ds d ⟨_, _, _, rfl, _⟩; rfl
  ·
    obtain ⟨p, a, b, rfl, hp, ha, hb, rfl⟩ := p
    have hLM : LM = 1000000 := rfl
    show StD K _ [.val (.int p), .val (inD a), .val (inD b), .un, .un, .un, .un] _
    refine st_seq (st_set (ev_max (ev_lenL (ev_var rfl).h) (ev_lenL (ev_var rfl).h))) ?_
    have pad : ∀ (l : List Int), l.length ≤ LM → l.length ≤ max a.length b.length → (l ++ List.replicate (max (a.length : Int) b.length - l.length).toNat 0).length = max a.length b.length := fun l _ h => by
      rw [List.length_append, List.length_replicate]; omega
    have cfp : ∀ (l : List Int) (n i : Nat), cf (l ++ List.replicate n 0) i = cf l i := fun l n i => by
      rw [cf_app]; split
      · rfl
      · rw [cf_rep, cf_out (by omega)]
    refine st_seq (st_parT (em_v (ev_pub (en_catT (by rw [List.length_replicate]; omega) (ev_var rfl) (ev_pub (en_repT (by omega) (ev_pub (en_lst1 ev_int)) (ev_sub (ev_var rfl) (ev_lenL (ev_var rfl).h))))))) (em_v (ev_pub (en_catT (by rw [List.length_replicate]; omega) (ev_var rfl) (ev_pub (en_repT (by omega) (ev_pub (en_lst1 ev_int)) (ev_sub (ev_var rfl) (ev_lenL (ev_var rfl).h))))))) (fun h => nomatch h) (fun h => nomatch h)) ?_
    have pa := pad a ha (by omega)
    have pb := pad b hb (by omega)
    refine st_ret (ev_call (ea2 (ev_var rfl) (ev_pub (en_lcT D.int (fun k : Int => cf a k.toNat + cf b k.toNat) (by rw [rangeI_len]; exact LMs (by omega)) (it_rng1 (n := max (a.length : Int) b.length) (by omega) (ev_var rfl)) fun pre x post e => ⟨_, _, tg_name, fun _ h => h, (ev_add (ev_ixI (by have := rangeI_mem (mem_mid e); omega) (by have := rangeI_mem (mem_mid e); rw [pa]; omega) (ev_var rfl) (ev_var rfl)) (ev_ixI (by have := rangeI_mem (mem_mid e); omega) (by have := rangeI_mem (mem_mid e); rw [pb]; omega) (ev_var rfl) (ev_var rfl))).cast (by rw [cfp, cfp])⟩))) ⟨_, _, rfl, hp, by rw [List.length_map, rangeI_len]; omega, ?_⟩)
    unfold padd mk
    rw [rangeI_map, show (max (a.length : Int) b.length).toNat = max a.length b.length by omega]
    rfl
abbrev s_negated : Stmt := top 17
abbrev nm_negated : List Str := ["p", "one", "number"]
theorem sc_negated : FnScope nm_negated ["p", "one"] (defScope s_negated) := ⟨rfl, rfl, rfl, by decide +kernel, rfl, by decide +kernel, by decide +kernel⟩
theorem ok_negated (fx : Fx K mg) (c_trimmed : Cal P w K mg base 1 "trimmed" (spD K p_trimmed) []) (F : FunD K "negated" "negated" (defArgs s_negated) (defBody s_negated) (defScope s_negated) [] [] f fd) : FnOk P w K mg base CX0 2 f fd ["p", "one"] (spD K p_negated) := by
  refine F.ok sc_negated (spD_len (n := 2) ?_) (fun cdv A outer s H vs Q E hr h => ⟨_, PSs.nox ((pss_one (ps_ret (pe_c c_trimmed hr (by decide) rfl (pa_cons (pv 0) (pa_cons (pe_lc (own := [("number", 2)]) rfl sc_negated.nd (pil K (pv 1)) (blkOk_by (N := nm_negated) (sc := defScope s_negated) (by decide +kernel)) (fun _ _ _ _ _ => (pg_name (i := 2) sc_negated.nd rfl (by first | exact Or.inl rfl | exact Or.inr rfl))) (fun _ _ _ _ _ => pts_nil) (fun _ _ _ _ _ => (pe_op op_sub pe_int (pv 2)))) pa_nil)))))), run_def (N := nm_negated) (fun ds d p => ?_) vs H Q E h⟩)
  · rintro ds d ⟨_, _, rfl, _⟩; rfl
  ·
    obtain ⟨p, a, rfl, hp, hl, rfl⟩ := p
    show StD K _ [.val (.int p), .val (inD a), .un] _
    exact st_ret (ev_call (ea2 (ev_var rfl) (ev_pub (en_lcT D.int (fun x => 0 - x) (LMs (by omega)) (it_list (ev_var rfl)) fun _ _ _ _ => ⟨_, _, tg_name, fun _ h => h, ev_sub ev_int (ev_var rfl)⟩))) ⟨_, _, rfl, hp, by rw [List.length_map]; omega, rfl⟩)
abbrev s_lessened : Stmt := top 18
abbrev nm_lessened : List Str := ["p", "one", "other"]
theorem sc_lessened : FnScope nm_lessened ["p", "one", "other"] (defScope s_lessened) := ⟨rfl, rfl, rfl, by decide +kernel, rfl, by decide +kernel, by decide +kernel⟩
theorem ok_lessened (fx : Fx K mg) (c_added : Cal P w K mg base 2 "added" (spD K p_added) []) (c_negated : Cal P w K mg base 2 "negated" (spD K p_negated) []) (F : FunD K "lessened" "lessened" (defArgs s_lessened) (defBody s_lessened) (defScope s_lessened) [] [] f fd) : FnOk P w K mg base CX0 3 f fd ["p", "one", "other"] (spD K p_lessened) := by
  refine F.ok sc_lessened (spD_len (n := 3) ?_) (fun cdv A outer s H vs Q E hr h => ⟨_, PSs.nox ((pss_one (ps_ret (pe_c c_added hr (by decide) rfl (pa_cons (pv 0) (pa_cons (pv 1) (pa_cons (pe_c c_negated hr (by decide) rfl (pa_cons (pv 0) (pa_cons (pv 2) pa_nil))) pa_nil))))))), run_def (N := nm_lessened) (fun ds d p => ?_) vs H Q E h⟩)
  · rintro ds d ⟨_, _, _, rfl, _⟩; rfl
  ·
    obtain ⟨p, a, b, rfl, hp, ha, hb, rfl⟩ := p
    show StD K _ [.val (.int p), .val (inD a), .val (inD b)] _
    exact st_ret (ev_call (ea3 (ev_var rfl) (ev_var rfl) (ev_call (ea2 (ev_var rfl) (ev_var rfl)) ⟨_, _, rfl, hp, hb, rfl⟩)) ⟨_, _, _, rfl, hp, ha, Nat.le_trans pneg_len hb, rfl⟩)
abbrev s_scaled : Stmt := top 19
abbrev nm_scaled : List Str := ["p", "one", "number", "item"]
theorem sc_scaled : FnScope nm_scaled ["p", "one", "number"] (defScope s_scaled) := ⟨rfl, rfl, rfl, by decide +kernel, rfl, by decide +kernel, by decide +kernel⟩
theorem ok_scaled (fx : Fx K mg) (c_trimmed : Cal P w K mg base 1 "trimmed" (spD K p_trimmed) []) (F : FunD K "scaled" "scaled" (defArgs s_scaled) (defBody s_scaled) (defScope s_scaled) [] [] f fd) : FnOk P w K mg base CX0 2 f fd ["p", "one", "number"] (spD K p_scaled) := by
  refine F.ok sc_scaled (spD_len (n := 3) ?_) (fun cdv A outer s H vs Q E hr h => ⟨_, PSs.nox ((pss_one (ps_ret (pe_c c_trimmed hr (by decide) rfl (pa_cons (pv 0) (pa_cons (pe_lc (own := [("item", 3)]) rfl sc_scaled.nd (pil K (pv 1)) (blkOk_by (N := nm_scaled) (sc := defScope s_scaled) (by decide +kernel)) (fun _ _ _ _ _ => (pg_name (i := 3) sc_scaled.nd rfl (by first | exact Or.inl rfl | exact Or.inr rfl))) (fun _ _ _ _ _ => pts_nil) (fun _ _ _ _ _ => (pe_op op_mul (pv 3) (pv 2)))) pa_nil)))))), run_def (N := nm_scaled) (fun ds d p => ?_) vs H Q E h⟩)
  · rintro ds d ⟨_, _, _, rfl, _⟩; rfl
  ·
    obtain ⟨p, a, n, rfl, hp, hl, hn, rfl⟩ := p
    show StD K _ [.val (.int p), .val (inD a), .val (.int n), .un] _
    exact st_ret (ev_call (ea2 (ev_var rfl) (ev_pub (en_lcT D.int (fun x => x * n) (LMs (by omega)) (it_list (ev_var rfl)) fun _ _ _ _ => ⟨_, _, tg_name, fun _ h => h, ev_mulS (.inr hn) (ev_var rfl) (ev_var rfl)⟩))) ⟨_, _, rfl, hp, by rw [List.length_map]; omega, rfl⟩)
abbrev s_multiplied : Stmt := top 20
abbrev nm_multiplied : List Str := ["p", "one", "other", "found", "at", "low", "place", "high"]
theorem sc_multiplied : FnScope nm_multiplied ["p", "one", "other"] (defScope s_multiplied) := ⟨rfl, rfl, rfl, by decide +kernel, rfl, by decide +kernel, by decide +kernel⟩
theorem ok_multiplied (fx : Fx K mg) (c_trimmed : Cal P w K mg base 1 "trimmed" (spD K p_trimmed) []) (F : FunD K "multiplied" "multiplied" (defArgs s_multiplied) (defBody s_multiplied) (defScope s_multiplied) [] [] f fd) : FnOk P w K mg base CX0 2 f fd ["p", "one", "other"] (spD K p_multiplied) := by
  refine F.ok sc_multiplied (spD_len (n := 3) ?_) (fun cdv A outer s H vs Q E hr h => ⟨_, PSs.nox ((pss_cons (ps_set (i := 3) sc_multiplied.nd rfl (by first | exact Or.inl rfl | exact Or.inr rfl) (pe_op op_rep (pe_lst (pa_cons pe_int pa_nil)) (pe_op op_add (pe_callB (lenS K) (by rfl) fx.b_len (by decide +kernel) (pa_cons (pv 1) pa_nil)) (pe_callB (lenS K) (by rfl) fx.b_len (by decide +kernel) (pa_cons (pv 2) pa_nil)))))
      (pss_cons (ps_for PassesOwn.never rfl (pien K (by rfl) fx.b_enumerate (pa_cons (pv 1) pa_nil)) (pgt (n := 2) K rfl (pgs_cons (pg_name (i := 4) sc_multiplied.nd rfl (by first | exact Or.inl rfl | exact Or.inr rfl)) (pgs_cons (pg_name (i := 5) sc_multiplied.nd rfl (by first | exact Or.inl rfl | exact Or.inr rfl)) pgs_nil)))
      (pss_one (ps_for PassesOwn.never rfl (pien K (by rfl) fx.b_enumerate (pa_cons (pv 2) pa_nil)) (pgt (n := 2) K rfl (pgs_cons (pg_name (i := 6) sc_multiplied.nd rfl (by first | exact Or.inl rfl | exact Or.inr rfl)) (pgs_cons (pg_name (i := 7) sc_multiplied.nd rfl (by first | exact Or.inl rfl | exact Or.inr rfl)) pgs_nil)))
      (pss_one (ps_asg (pe_op op_add (pe_ix (ixl K) (pv 3) (pe_op op_add (pv 4) (pv 6)) (fun _ _ => rfl)) (pe_op op_mul (pv 5) (pv 7))) (pg_sub (pv 3) (pe_op op_add (pv 4) (pv 6)) set_list))))))
      (pss_one (ps_ret (pe_c c_trimmed hr (by decide) rfl (pa_cons (pv 0) (pa_cons (pv 3) pa_nil)))))))), run_def (N := nm_multiplied) (fun ds d p => ?_) vs H Q E h⟩)
  · rintro ds d ⟨_, _, _, rfl, _⟩; rfl
  ·
    obtain ⟨p, a, b, rfl, hp, ha, hb, sa, rfl⟩ := p
    have hLM : LM = 1000000 := rfl
    show StD K _ [.val (.int p), .val (inD a), .val (inD b), .un, .un, .un, .un, .un] _
    refine st_seq (st_setN (en_repT (by omega) (ev_pub (en_lst1 ev_int)) (ev_add (ev_lenL (ev_var rfl).h) (ev_lenL (ev_var rfl).h)))) ?_
    refine st_seq (st_for (S := List Int) (as := enumI a) (Gs := fun l => [.val (.int p), .val (inD a), .val (inD b), .own (l.map D.int), .un, .un, .un, .un]) (step := fun l q => addAt q.1 q.2 b l) (s0 := List.replicate (a.length + b.length) 0) (it_enum (ev_var rfl)) fun pre x post e => ?_) ?_
    · obtain ⟨i, x⟩ := x
      have hx := enumI_mem (mem_mid e)
      have hl : (pre.foldl (fun l q => addAt q.1 q.2 b l) (List.replicate (a.length + b.length) 0)).length = a.length + b.length := by
        rw [foldl_len _ (fun _ _ => addAt_len)]; simp
      refine ⟨_, _, tg_tup (tgs_cons tg_name (tgs_cons tg_name tgs_nil)) rfl, ?_⟩
      generalize hs : pre.foldl (fun l q => addAt q.1 q.2 b l) (List.replicate (a.length + b.length) 0) = l0 at hl ⊢
      refine StD.lp (StD.weak (st_for (S := List Int) (as := enumI b) (Gs := fun l => [.val (.int p), .val (inD a), .val (inD b), .own (l.map D.int), .val (.int i), .val (.int x), .un, .un]) (step := fun l q => l.set (i + q.1).toNat (cf l (i + q.1).toNat + x * q.2)) (s0 := l0) (it_enum (ev_var rfl)) fun pre2 y post2 e2 => ?_) (.eq (.eq (.eq (.eq (.un (.un (.eq (.eq .nil)))))))))
      obtain ⟨j, y⟩ := y
      have hy := enumI_mem (mem_mid e2)
      have hl2 : (pre2.foldl (fun l q => l.set (i + q.1).toNat (cf l (i + q.1).toNat + x * q.2)) l0).length = a.length + b.length := by
        rw [foldl_len _ (fun _ _ => by simp), hl]
      generalize hs2 : pre2.foldl (fun l q => l.set (i + q.1).toNat (cf l (i + q.1).toNat + x * q.2)) l0 = l1 at hl2 ⊢
      refine ⟨_, _, tg_tup (tgs_cons tg_name (tgs_cons tg_name tgs_nil)) rfl, ?_⟩
      have sx := sa x hx.2.2
      exact StD.lp (StD.weak (st_setL (l := l1) (i := 3) rfl (by omega) (by omega) (ev_add (ev_ixIO (l := l1) rfl (by omega) (by omega) (ev_add (ev_var rfl) (ev_var rfl))) (ev_mulS (.inl sx) (ev_var rfl) (ev_var rfl))) (ev_add (ev_var rfl) (ev_var rfl))) (.eq (.eq (.eq (.eq (.eq (.eq (.un (.un .nil)))))))))
    exact st_pub (i := 3) rfl (st_ret (ev_call (ea2 (ev_var rfl) (ev_var rfl)) ⟨_, _, rfl, hp, by show (mulF a b).length ≤ _; rw [mulF_len]; omega, rfl⟩))
abbrev s_power_of : Stmt := top 21
abbrev nm_power_of : List Str := ["p", "one", "count", "found", "turn"]
theorem sc_power_of : FnScope nm_power_of ["p", "one", "count"] (defScope s_power_of) := ⟨rfl, rfl, rfl, by decide +kernel, rfl, by decide +kernel, by decide +kernel⟩
theorem ok_power_of (fx : Fx K mg) (c_multiplied : Cal P w K mg base 2 "multiplied" (spD K p_multiplied) []) (F : FunD K "power_of" "power_of" (defArgs s_power_of) (defBody s_power_of) (defScope s_power_of) [] [] f fd) : FnOk P w K mg base CX0 3 f fd ["p", "one", "count"] (spD K p_power_of) := by
  refine F.ok sc_power_of (spD_len (n := 3) ?_) (fun cdv A outer s H vs Q E hr h => ⟨_, PSs.nox ((pss_cons (ps_set (i := 3) sc_power_of.nd rfl (by first | exact Or.inl rfl | exact Or.inr rfl) (pe_lst (pa_cons pe_int pa_nil)))
      (pss_cons (ps_for PassesOwn.never rfl (pi_range1 (by rfl) fx.b_range (pa_cons (pv 2) pa_nil)) (pg_name (i := 4) sc_power_of.nd rfl (by first | exact Or.inl rfl | exact Or.inr rfl))
      (pss_one (ps_set (i := 3) sc_power_of.nd rfl (by first | exact Or.inl rfl | exact Or.inr rfl) (pe_c c_multiplied hr (by decide) rfl (pa_cons (pv 0) (pa_cons (pv 3) (pa_cons (pv 1) pa_nil)))))))
      (pss_one (ps_ret (pv 3)))))), run_def (N := nm_power_of) (fun ds d p => ?_) vs H Q E h⟩)
  · rintro ds d ⟨_, _, _, rfl, _⟩; rfl
  ·
    obtain ⟨p, a, n, rfl, hp, hp2, hn, hn2, hna, ha, rfl⟩ := p
    have hLM : LM = 1000000 := rfl
    show StD K _ [.val (.int p), .val (inD a), .val (.int n), .un, .un] _
    refine st_seq (st_set (ev_pub (en_lst1 ev_int))) ?_
    refine st_seq (st_for (S := Nat) (as := rangeI 0 n.toNat) (enc := D.int) (Gs := fun k => [.val (.int p), .val (inD a), .val (.int n), .val (inD (ppow p a k)), .un]) (step := fun k _ => k + 1) (s0 := 0) (it_rng1 (n := n) (by omega) (ev_var rfl)) fun pre x post e => ?_) ?_
    · have hk : pre.foldl (fun (k : Nat) (_ : Int) => k + 1) 0 = pre.length := (foldl_count pre 0).trans (Nat.zero_add _)
      have hpre : pre.length < n.toNat := by
        have := congrArg List.length e
        rw [rangeI_len, List.length_append, List.length_cons] at this
        omega
      rw [hk]
      have hlen := ppow_len (p := p) (a := a) (n := pre.length)
      have h5 : pre.length * a.length ≤ n.toNat * a.length := Nat.mul_le_mul_right _ (by omega)
      refine ⟨_, _, tg_name, StD.lp (StD.weak (st_set (i := 3) (ev_call (ea3 (ev_var rfl) (ev_var rfl) (ev_var rfl)) ⟨_, _, _, rfl, hp, by omega, by omega, ?_, rfl⟩)) (.eq (.eq (.eq (.eq (.un .nil))))))⟩
      exact ppow_sm hp hp2
    rw [foldl_count, rangeI_len, Nat.zero_add]
    exact st_ret (ev_var rfl)
abbrev s_parted : Stmt := top 22
abbrev nm_parted : List Str := ["p", "one", "other", "rest", "quotient", "back", "at", "number", "place", "item"]
theorem sc_parted : FnScope nm_parted ["p", "one", "other"] (defScope s_parted) := ⟨rfl, rfl, rfl, by decide +kernel, rfl, by decide +kernel, by decide +kernel⟩
theorem ok_parted (fx : Fx K mg) (c_inverse : Cal P w K mg base 1 "inverse" (spD K p_inverse) []) (c_trimmed : Cal P w K mg base 1 "trimmed" (spD K p_trimmed) []) (F : FunD K "parted" "parted" (defArgs s_parted) (defBody s_parted) (defScope s_parted) [] [] f fd) : FnOk P w K mg base CX0 2 f fd ["p", "one", "other"] (spD K p_parted) := by
  refine F.ok sc_parted (spD_len (n := 3) ?_) (fun cdv A outer s H vs Q E hr h => ⟨_, PSs.nox ((pss_cons (ps_par3 (i := 3) (j := 4) (l := 5) (by rfl) sc_parted.nd rfl rfl rfl (by decide) (by decide) (by decide) rfl rfl rfl (pa_cons (pe_callTy (lstOf K) (by rfl) fx.b_list (by decide +kernel) (pa_cons (pv 1) pa_nil)) (pa_cons (pe_op op_rep (pe_lst (pa_cons pe_int pa_nil)) (pe_callB (call_max2 rfl) (by rfl) fx.b_max (by decide +kernel) (pa_cons (pe_op op_add (pe_op op_sub (pe_callB (lenS K) (by rfl) fx.b_len (by decide +kernel) (pa_cons (pv 1) pa_nil)) (pe_callB (lenS K) (by rfl) fx.b_len (by decide +kernel) (pa_cons (pv 2) pa_nil))) pe_int) (pa_cons pe_int pa_nil)))) (pa_cons (pe_c c_inverse hr (by decide) rfl (pa_cons (pv 0) (pa_cons (pe_ix (ixl K) (pv 2) (pe_un un_neg pe_int) (fun _ _ => rfl)) pa_nil))) pa_nil))) (by rfl))
      (pss_cons (ps_for PassesOwn.never rfl (pi_range3 (by rfl) fx.b_range (pa_cons (pe_op op_sub (pe_callB (lenS K) (by rfl) fx.b_len (by decide +kernel) (pa_cons (pv 1) pa_nil)) (pe_callB (lenS K) (by rfl) fx.b_len (by decide +kernel) (pa_cons (pv 2) pa_nil))) (pa_cons (pe_un un_neg pe_int) (pa_cons (pe_un un_neg pe_int) pa_nil)))) (pg_name (i := 6) sc_parted.nd rfl (by first | exact Or.inl rfl | exact Or.inr rfl))
      (pss_cons (ps_set (i := 7) sc_parted.nd rfl (by first | exact Or.inl rfl | exact Or.inr rfl) (pe_op op_mod (pe_op op_mul (pe_ix (ixl K) (pv 3) (pe_op op_sub (pe_op op_add (pv 6) (pe_callB (lenS K) (by rfl) fx.b_len (by decide +kernel) (pa_cons (pv 2) pa_nil))) pe_int) (fun _ _ => rfl)) (pv 5)) (pv 0)))
      (pss_cons (ps_asg (pv 7) (pg_sub (pv 4) (pv 6) set_list))
      (pss_one (ps_for PassesOwn.never rfl (pien K (by rfl) fx.b_enumerate (pa_cons (pv 2) pa_nil)) (pgt (n := 2) K rfl (pgs_cons (pg_name (i := 8) sc_parted.nd rfl (by first | exact Or.inl rfl | exact Or.inr rfl)) (pgs_cons (pg_name (i := 9) sc_parted.nd rfl (by first | exact Or.inl rfl | exact Or.inr rfl)) pgs_nil)))
      (pss_one (ps_asg (pe_op op_mod (pe_op op_sub (pe_ix (ixl K) (pv 3) (pe_op op_add (pv 6) (pv 8)) (fun _ _ => rfl)) (pe_op op_mul (pv 7) (pv 9))) (pv 0)) (pg_sub (pv 3) (pe_op op_add (pv 6) (pv 8)) set_list))))))))
      (pss_one (ps_ret (pe_tup (pa_cons (pe_c c_trimmed hr (by decide) rfl (pa_cons (pv 0) (pa_cons (pv 4) pa_nil))) (pa_cons (pe_c c_trimmed hr (by decide) rfl (pa_cons (pv 0) (pa_cons (pv 3) pa_nil))) pa_nil)))))))), run_def (N := nm_parted) (fun ds d p => ?_) vs H Q E h⟩)
  · rintro ds d ⟨_, _, _, rfl, _⟩; rfl
  ·
    obtain ⟨p, a, b, rfl, hp, ha, hb, hne, nb, rfl⟩ := p
    have hLM : LM = 1000000 := rfl
    have hl0 := nb.lst hne
    have hlp := hp.le
    have hpp := hp.pos
    have hbl := List.length_pos_iff.mpr hne
    have hmod : lastI b % p = lastI b := Int.emod_eq_of_lt (by omega) (by omega)
    have hinv := pinv_mem hp (n := lastI b) (by omega)
    show StD K _ [.val (.int p), .val (inD a), .val (inD b), .un, .un, .un, .un, .un, .un, .un] _
    refine st_seq (st_par3 (c1 := .own (a.map D.int)) (em_n (en_listof (ev_var rfl))) (em_n (en_repT (by omega) (ev_pub (en_lst1 ev_int)) (ev_max (ev_add (ev_sub (ev_lenL (ev_var rfl).h) (ev_lenL (ev_var rfl).h)) ev_int) ev_int))) (em_v (ev_call (ea2 (ev_var rfl) (ev_ixN hne (ev_var rfl) ev_m1)) ⟨_, _, rfl, hp, by omega, by omega, rfl⟩)) (fun h => nomatch h) (fun h => nomatch h) (fun h => nomatch h) (by decide) (by decide) (by decide)) ?_
    refine st_seq (st_for (S := List Int × List Int) (as := rangeC ((a.length : Int) - b.length) (-1) ((a.length : Int) - b.length - (-1)).toNat) (enc := D.int) (Gs := fun s => [.val (.int p), .val (inD a), .val (inD b), .own (s.1.map D.int), .own (s.2.map D.int), .val (.int (pinv p (lastI b))), .un, .un, .un, .un]) (step := divStep p (pinv p (lastI b)) b) (s0 := (a, List.replicate (max ((a.length : Int) - b.length + 1) 0).toNat 0)) (it_rng3 (RgC.neg (by omega) (by omega) (by omega) (by omega)) (ev_sub (ev_lenL (ev_var rfl).h) (ev_lenL (ev_var rfl).h)) ev_m1 ev_m1) fun pre x post e => ?_) ?_
    · have hx := rangeC_mem (mem_mid e)
      have hg := divG_len (p := p) (back := pinv p (lastI b)) (b := b) pre (a, List.replicate (max ((a.length : Int) - b.length + 1) 0).toNat 0)
      generalize hs : pre.foldl (divStep p (pinv p (lastI b)) b) (a, List.replicate (max ((a.length : Int) - b.length + 1) 0).toNat 0) = s at hg ⊢
      obtain ⟨r, q⟩ := s
      simp only [List.length_replicate] at hg
      refine ⟨_, _, tg_name, StD.lp ?_⟩
      simp only [divStep]
      have hnum : 0 ≤ cf r (x + b.length - 1).toNat * pinv p (lastI b) % p ∧ cf r (x + b.length - 1).toNat * pinv p (lastI b) % p < p := ⟨Int.emod_nonneg _ (by omega), Int.emod_lt_of_pos _ hpp⟩
      refine st_seq (st_set (ev_mod hpp (ev_mulS (.inr (by omega)) (ev_ixIO (l := r) rfl (by omega) (by omega) (ev_sub (ev_add (ev_var rfl) (ev_lenL (ev_var rfl).h)) ev_int)) (ev_var rfl)) (ev_var rfl))) ?_
      generalize cf r (x + b.length - 1).toNat * pinv p (lastI b) % p = num at hnum
      refine st_seq (st_setL (l := q) (i := 4) rfl (by omega) (by omega) (ev_var rfl) (ev_var rfl)) ?_
      refine StD.weak (st_for (S := List Int) (as := enumI b) (Gs := fun l => [.val (.int p), .val (inD a), .val (inD b), .own (l.map D.int), .own ((q.set x.toNat num).map D.int), .val (.int (pinv p (lastI b))), .val (.int x), .val (.int num), .un, .un]) (step := fun l q => l.set (x + q.1).toNat ((cf l (x + q.1).toNat - num * q.2) % p)) (s0 := r) (it_enum (ev_var rfl)) fun pre2 y post2 e2 => ?_) (.eq (.eq (.eq (.eq (.eq (.eq (.un (.un (.eq (.eq .nil))))))))))
      obtain ⟨j, y⟩ := y
      have hy := enumI_mem (mem_mid e2)
      have hl2 : (pre2.foldl (fun l q => l.set (x + q.1).toNat ((cf l (x + q.1).toNat - num * q.2) % p)) r).length = r.length := foldl_len _ (fun _ _ => by simp) _ _
      generalize hs2 : pre2.foldl (fun l q => l.set (x + q.1).toNat ((cf l (x + q.1).toNat - num * q.2) % p)) r = l1 at hl2 ⊢
      refine ⟨_, _, tg_tup (tgs_cons tg_name (tgs_cons tg_name tgs_nil)) rfl, ?_⟩
      exact StD.lp (StD.weak (st_setL (l := l1) (i := 3) rfl (by omega) (by omega) (ev_mod hpp (ev_sub (ev_ixIO (l := l1) rfl (by omega) (by omega) (ev_add (ev_var rfl) (ev_var rfl))) (ev_mulS (.inl (by omega)) (ev_var rfl) (ev_var rfl))) (ev_var rfl)) (ev_add (ev_var rfl) (ev_var rfl))) (.eq (.eq (.eq (.eq (.eq (.eq (.eq (.eq (.un (.un .nil)))))))))))
    have hg := divG_len (p := p) (back := pinv p (lastI b)) (b := b) (rangeC ((a.length : Int) - b.length) (-1) ((a.length : Int) - b.length - (-1)).toNat) (a, List.replicate (max ((a.length : Int) - b.length + 1) 0).toNat 0)
    simp only [List.length_replicate] at hg
    refine st_pub (i := 3) rfl (st_pub (i := 4) rfl (st_ret (ev_tup (ea2 (ev_call (ea2 (ev_var rfl) (ev_var rfl)) ⟨_, _, rfl, hpp, ?_, rfl⟩) (ev_call (ea2 (ev_var rfl) (ev_var rfl)) ⟨_, _, rfl, hpp, ?_, rfl⟩)) (by show 2 ≤ sizeLine; decide))))
    · rw [hg.2]; omega
    · rw [hg.1]; omega
abbrev s_whole_part : Stmt := top 23
abbrev nm_whole_part : List Str := ["p", "one", "other"]
theorem sc_whole_part : FnScope nm_whole_part ["p", "one", "other"] (defScope s_whole_part) := ⟨rfl, rfl, rfl, by decide +kernel, rfl, by decide +kernel, by decide +kernel⟩
theorem ok_whole_part (fx : Fx K mg) (c_parted : Cal P w K mg base 2 "parted" (spD K p_parted) []) (F : FunD K "whole_part" "whole_part" (defArgs s_whole_part) (defBody s_whole_part) (defScope s_whole_part) [] [] f fd) : FnOk P w K mg base CX0 3 f fd ["p", "one", "other"] (spD K p_whole_part) := by
  refine F.ok sc_whole_part (spD_len (n := 3) ?_) (fun cdv A outer s H vs Q E hr h => ⟨_, PSs.nox ((pss_one (ps_ret (pe_ix (ixt K) (pe_c c_parted hr (by decide) rfl (pa_cons (pv 0) (pa_cons (pv 1) (pa_cons (pv 2) pa_nil)))) pe_int (fun _ _ => rfl))))), run_def (N := nm_whole_part) (fun ds d p => ?_) vs H Q E h⟩)
  · rintro ds d ⟨_, _, _, rfl, _⟩; rfl
  ·
    obtain ⟨p, a, b, rfl, hp, ha, hb, hne, nb, rfl⟩ := p
    show StD K _ [.val (.int p), .val (inD a), .val (inD b)] _
    exact st_ret (ev_tix0 (ev_call (ea3 (ev_var rfl) (ev_var rfl) (ev_var rfl)) ⟨_, _, _, rfl, hp, ha, hb, hne, nb, rfl⟩))
abbrev s_common_with : Stmt := top 24
abbrev nm_common_with : List Str := ["p", "one", "other", "low", "high", "quotient", "rest", "left", "right", "back"]
theorem sc_common_with : FnScope nm_common_with ["p", "one", "other"] (defScope s_common_with) := ⟨rfl, rfl, rfl, by decide +kernel, rfl, by decide +kernel, by decide +kernel⟩
theorem ok_common_with (fx : Fx K mg) (c_inverse : Cal P w K mg base 1 "inverse" (spD K p_inverse) []) (c_parted : Cal P w K mg base 2 "parted" (spD K p_parted) []) (c_lessened : Cal P w K mg base 3 "lessened" (spD K p_lessened) []) (c_scaled : Cal P w K mg base 2 "scaled" (spD K p_scaled) []) (c_multiplied : Cal P w K mg base 2 "multiplied" (spD K p_multiplied) []) (F : FunD K "common_with" "common_with" (defArgs s_common_with) (defBody s_common_with) (defScope s_common_with) [] [] f fd) : FnOk P w K mg base CX0 4 f fd ["p", "one", "other"] (spD K p_common_with) := by
  refine F.ok sc_common_with (spD_len (n := 3) ?_) (fun cdv A outer s H vs Q E hr h => ⟨_, PSs.nox ((pss_cons (ps_par (i := 3) (j := 4) (by rfl) sc_common_with.nd rfl rfl (by decide) rfl rfl (pa_cons (pe_tup (pa_cons (pe_callTy (lstOf K) (by rfl) fx.b_list (by decide +kernel) (pa_cons (pv 1) pa_nil)) (pa_cons (pe_lst (pa_cons pe_int pa_nil)) (pa_cons (pe_lst pa_nil) pa_nil)))) (pa_cons (pe_tup (pa_cons (pe_callTy (lstOf K) (by rfl) fx.b_list (by decide +kernel) (pa_cons (pv 2) pa_nil)) (pa_cons (pe_lst pa_nil) (pa_cons (pe_lst (pa_cons pe_int pa_nil)) pa_nil)))) pa_nil)) (by rfl))
      (pss_cons (ps_while PassesOwn.never (pt_cmpR (opNe K hr.units) (pe_ix (ixt K) (pv 4) pe_int (fun _ _ => rfl)) (pe_lst pa_nil) (nomark _))
      (pss_cons (ps_asg (pe_c c_parted hr (by decide) rfl (pa_cons (pv 0) (pa_cons (pe_ix (ixt K) (pv 3) pe_int (fun _ _ => rfl)) (pa_cons (pe_ix (ixt K) (pv 4) pe_int (fun _ _ => rfl)) pa_nil)))) (pgt (n := 2) K rfl (pgs_cons (pg_name (i := 5) sc_common_with.nd rfl (by first | exact Or.inl rfl | exact Or.inr rfl)) (pgs_cons (pg_name (i := 6) sc_common_with.nd rfl (by first | exact Or.inl rfl | exact Or.inr rfl)) pgs_nil))))
      (pss_cons (ps_set (i := 7) sc_common_with.nd rfl (by first | exact Or.inl rfl | exact Or.inr rfl) (pe_c c_lessened hr (by decide) rfl (pa_cons (pv 0) (pa_cons (pe_ix (ixt K) (pv 3) pe_int (fun _ _ => rfl)) (pa_cons (pe_c c_multiplied hr (by decide) rfl (pa_cons (pv 0) (pa_cons (pv 5) (pa_cons (pe_ix (ixt K) (pv 4) pe_int (fun _ _ => rfl)) pa_nil)))) pa_nil)))))
      (pss_cons (ps_set (i := 8) sc_common_with.nd rfl (by first | exact Or.inl rfl | exact Or.inr rfl) (pe_c c_lessened hr (by decide) rfl (pa_cons (pv 0) (pa_cons (pe_ix (ixt K) (pv 3) pe_int (fun _ _ => rfl)) (pa_cons (pe_c c_multiplied hr (by decide) rfl (pa_cons (pv 0) (pa_cons (pv 5) (pa_cons (pe_ix (ixt K) (pv 4) pe_int (fun _ _ => rfl)) pa_nil)))) pa_nil)))))
      (pss_one (ps_par (i := 3) (j := 4) (by rfl) sc_common_with.nd rfl rfl (by decide) rfl rfl (pa_cons (pv 4) (pa_cons (pe_tup (pa_cons (pv 6) (pa_cons (pv 7) (pa_cons (pv 8) pa_nil)))) pa_nil)) (by rfl)))))))
      (pss_cons (ps_if (pt_cmpR (opEq K hr.units) (pe_ix (ixt K) (pv 3) pe_int (fun _ _ => rfl)) (pe_lst pa_nil) (nomark _)) (pss_one (ps_ret (pe_tup (pa_cons (pe_lst pa_nil) (pa_cons (pe_lst pa_nil) (pa_cons (pe_lst pa_nil) pa_nil)))))) pss_nil)
      (pss_cons (ps_set (i := 9) sc_common_with.nd rfl (by first | exact Or.inl rfl | exact Or.inr rfl) (pe_c c_inverse hr (by decide) rfl (pa_cons (pv 0) (pa_cons (pe_ix (ixl K) (pe_ix (ixt K) (pv 3) pe_int (fun _ _ => rfl)) (pe_un un_neg pe_int) (fun _ _ => rfl)) pa_nil))))
      (pss_one (ps_ret (pe_tup (pa_cons (pe_c c_scaled hr (by decide) rfl (pa_cons (pv 0) (pa_cons (pe_ix (ixt K) (pv 3) pe_int (fun _ _ => rfl)) (pa_cons (pv 9) pa_nil)))) (pa_cons (pe_c c_scaled hr (by decide) rfl (pa_cons (pv 0) (pa_cons (pe_ix (ixt K) (pv 3) pe_int (fun _ _ => rfl)) (pa_cons (pv 9) pa_nil)))) (pa_cons (pe_c c_scaled hr (by decide) rfl (pa_cons (pv 0) (pa_cons (pe_ix (ixt K) (pv 3) pe_int (fun _ _ => rfl)) (pa_cons (pv 9) pa_nil)))) pa_nil))))))))))), run_def (N := nm_common_with) (fun ds d p => ?_) vs H Q E h⟩)
  · rintro ds d ⟨_, _, _, rfl, _⟩; rfl
  ·
    obtain ⟨p, a, b, rfl, hp, hl, ha, hb, rfl⟩ := p
    have hLM : LM = 1000000 := rfl
    have hlp := hp.le
    have hpp := hp.pos
    show StD K _ [.val (.int p), .val (inD a), .val (inD b), .un, .un, .un, .un, .un, .un, .un] _
    refine st_seq (st_par (c1 := .val (triD (a, [1], []))) (c2 := .val (triD (b, [], [1]))) (em_v (ev_tup (ea3 (ev_pub (en_listof (ev_var rfl))) (ev_pub (en_lst1 ev_int)) (ev_pub en_lst0)) (by show 3 ≤ sizeLine; decide))) (em_v (ev_tup (ea3 (ev_pub (en_listof (ev_var rfl))) (ev_pub en_lst0) (ev_pub (en_lst1 ev_int))) (by show 3 ≤ sizeLine; decide))) (fun h => nomatch h) (fun h => nomatch h) (by decide)) ?_
    refine st_seq (st_while (S := Tri × Tri) (Gs := fun s => [.val (.int p), .val (inD a), .val (inD b), .val (triD s.1), .val (triD s.2), .un, .un, .un, .un, .un]) (Iv := EgI p (a.length + b.length + 1)) (μ := fun s => s.2.1.length) (f := egStep p) (cd := egC) b.length (s0 := eg0 a b) (Nat.le_refl _) (eg_start hp ha hb) (fun s i => eb_test (ev_ne0 (ev_tix0 (ev_var rfl)).h)) (fun s i hc => ?_)) ?_
    · have hne : s.2.1 ≠ [] := by simpa [egC] using hc
      obtain ⟨t1, t2⟩ := eg_turn hp i hc
      refine ⟨?_, t1, t2⟩
      have i1 := i.a1
      have i2 := i.a2
      have i3 := i.c1
      have i4 := i.c2
      have hq := pquo_len (p := p) (a := s.1.1) (b := s.2.1)
      have hl1 := pmul_len (p := p) (a := pquo p s.1.1 s.2.1) (b := s.2.2.1)
      have hl2 := pmul_len (p := p) (a := pquo p s.1.1 s.2.1) (b := s.2.2.2)
      have sq : Sm (pquo p s.1.1 s.2.1) := (pquo_nrm hpp).sm hlp
      refine StD.lp ?_
      refine st_seq (st_unp2 (ev_call (ea3 (ev_var rfl) (ev_tix0 (ev_var rfl)) (ev_tix0 (ev_var rfl))) ⟨_, _, _, rfl, hp, by omega, by omega, hne, i.n2, rfl⟩)) ?_
      refine st_seq (st_set (ev_call (ea3 (ev_var rfl) (ev_tix1 (ev_var rfl)) (ev_call (ea3 (ev_var rfl) (ev_var rfl) (ev_tix1 (ev_var rfl))) ⟨_, _, _, rfl, hpp, by omega, by omega, sq, rfl⟩)) ⟨_, _, _, rfl, hpp, by omega, by omega, rfl⟩)) ?_
      refine st_seq (st_set (ev_call (ea3 (ev_var rfl) (ev_tix2 (ev_var rfl)) (ev_call (ea3 (ev_var rfl) (ev_var rfl) (ev_tix2 (ev_var rfl))) ⟨_, _, _, rfl, hpp, by omega, by omega, sq, rfl⟩)) ⟨_, _, _, rfl, hpp, by omega, by omega, rfl⟩)) ?_
      exact StD.weak (st_par (c1 := .val (triD s.2)) (c2 := .val (triD (egStep p s).2)) (em_v (ev_var rfl)) (em_v (ev_tup (ea3 (ev_var rfl) (ev_var rfl) (ev_var rfl)) (by show 3 ≤ sizeLine; decide))) (fun h => nomatch h) (fun h => nomatch h) (by decide)) (.eq (.eq (.eq (.eq (.eq (.un (.un (.un (.un (.eq .nil))))))))))
    obtain ⟨iv, hc⟩ := while_inv (c := egC) (f := egStep p) (Iv := EgI p (a.length + b.length + 1)) (μ := fun s => s.2.1.length) (fun s i h => eg_turn hp i h) b.length (eg0 a b) (eg_start hp ha hb) (Nat.le_refl _)
    have hF : egF p a b = whileN egC (egStep p) b.length (eg0 a b) := rfl
    unfold pgcd3
    rw [hF]
    generalize whileN egC (egStep p) b.length (eg0 a b) = s at iv ⊢
    refine st_ifS (eb_test (ev_eq0 (ev_tix0 (ev_var rfl)).h)) (fun h => ?_) (fun h => ?_)
    · rw [if_pos (by simpa using h)]
      exact st_seqR (st_ret (ev_tup (ea3 (ev_pub en_lst0) (ev_pub en_lst0) (ev_pub en_lst0)) (by show 3 ≤ sizeLine; decide)))
    · have hne : s.1.1 ≠ [] := by simpa using h
      rw [if_neg hne]
      have hl0 := iv.n1.lst hne
      have hinv := pinv_mem hp (n := lastI s.1.1) (by rw [Int.emod_eq_of_lt (by omega) (by omega)]; omega)
      have i1 := iv.a1
      have i2 := iv.a2
      have i3 := iv.c1
      have i4 := iv.c2
      refine st_seqN (st_seq (st_set (ev_call (ea2 (ev_var rfl) (ev_ixN hne (ev_tix0 (ev_var rfl)) ev_m1)) ⟨_, _, rfl, hp, by rw [Int.emod_eq_of_lt (by omega) (by omega)]; omega, by omega, rfl⟩)) ?_)
      exact st_ret (ev_tup (ea3 (ev_call (ea3 (ev_var rfl) (ev_tix0 (ev_var rfl)) (ev_var rfl)) ⟨_, _, _, rfl, hpp, by omega, by omega, rfl⟩) (ev_call (ea3 (ev_var rfl) (ev_tix1 (ev_var rfl)) (ev_var rfl)) ⟨_, _, _, rfl, hpp, by omega, by omega, rfl⟩) (ev_call (ea3 (ev_var rfl) (ev_tix2 (ev_var rfl)) (ev_var rfl)) ⟨_, _, _, rfl, hpp, by omega, by omega, rfl⟩)) (by show 3 ≤ sizeLine; decide))
abbrev s_common_of : Stmt := top 25
abbrev nm_common_of : List Str := ["p", "one", "other"]
theorem sc_common_of : FnScope nm_common_of ["p", "one", "other"] (defScope s_common_of) := ⟨rfl, rfl, rfl, by decide +kernel, rfl, by decide +kernel, by decide +kernel⟩
theorem ok_common_of (fx : Fx K mg) (c_common_with : Cal P w K mg base 4 "common_with" (spD K p_common_with) []) (F : FunD K "common_of" "common_of" (defArgs s_common_of) (defBody s_common_of) (defScope s_common_of) [] [] f fd) : FnOk P w K mg base CX0 5 f fd ["p", "one", "other"] (spD K p_common_of) := by
  refine F.ok sc_common_of (spD_len (n := 3) ?_) (fun cdv A outer s H vs Q E hr h => ⟨_, PSs.nox ((pss_one (ps_ret (pe_ix (ixt K) (pe_c c_common_with hr (by decide) rfl (pa_cons (pv 0) (pa_cons (pv 1) (pa_cons (pv 2) pa_nil)))) pe_int (fun _ _ => rfl))))), run_def (N := nm_common_of) (fun ds d p => ?_) vs H Q E h⟩)
  · rintro ds d ⟨_, _, _, rfl, _⟩; rfl
  ·
    obtain ⟨p, a, b, rfl, hp, hl, ha, hb, rfl⟩ := p
    show StD K _ [.val (.int p), .val (inD a), .val (inD b)] _
    exact st_ret (ev_tix0 (ev_call (ea3 (ev_var rfl) (ev_var rfl) (ev_var rfl)) ⟨_, _, _, rfl, hp, hl, ha, hb, rfl⟩))
abbrev s_slope_of : Stmt := top 26
abbrev nm_slope_of : List Str := ["p", "one", "at", "number"]
theorem sc_slope_of : FnScope nm_slope_of ["p", "one"] (defScope s_slope_of) := ⟨rfl, rfl, rfl, by decide +kernel, rfl, by decide +kernel, by decide +kernel⟩
theorem ok_slope_of (fx : Fx K mg) (c_trimmed : Cal P w K mg base 1 "trimmed" (spD K p_trimmed) []) (F : FunD K "slope_of" "slope_of" (defArgs s_slope_of) (defBody s_slope_of) (defScope s_slope_of) [] [] f fd) : FnOk P w K mg base CX0 2 f fd ["p", "one"] (spD K p_slope_of) := by
  refine F.ok sc_slope_of (spD_len (n := 2) ?_) (fun cdv A outer s H vs Q E hr h => ⟨_, PSs.nox ((pss_one (ps_ret (pe_c c_trimmed hr (by decide) rfl (pa_cons (pv 0) (pa_cons (pe_slice (sll K) (pe_lc (own := [("at", 2), ("number", 3)]) rfl sc_slope_of.nd (pien K (by rfl) fx.b_enumerate (pa_cons (pv 1) pa_nil)) (blkOk_by (N := nm_slope_of) (sc := defScope s_slope_of) (by decide +kernel)) (fun _ _ _ _ _ => (pgt (n := 2) K rfl (pgs_cons (pg_name (i := 2) sc_slope_of.nd rfl (by first | exact Or.inl rfl | exact Or.inr rfl)) (pgs_cons (pg_name (i := 3) sc_slope_of.nd rfl (by first | exact Or.inl rfl | exact Or.inr rfl)) pgs_nil)))) (fun _ _ _ _ _ => pts_nil) (fun _ _ _ _ _ => (pe_op op_mul (pv 2) (pv 3)))) (po_some pe_int) po_none) pa_nil)))))), run_def (N := nm_slope_of) (fun ds d p => ?_) vs H Q E h⟩)
  · rintro ds d ⟨_, _, rfl, _⟩; rfl
  ·
    obtain ⟨p, a, rfl, hp, ha, rfl⟩ := p
    have hLM : LM = 1000000 := rfl
    show StD K _ [.val (.int p), .val (inD a), .un, .un] _
    refine st_ret (ev_call (ea2 (ev_var rfl) (ev_pub ((en_slice (ev_pub (en_lcT D.int (fun q : Int × Int => q.1 * q.2) (by rw [enumI_len]; exact LMs (by omega)) (it_enum (ev_var rfl)) fun pre x post e => ⟨_, _, tg_tup (tgs_cons tg_name (tgs_cons tg_name tgs_nil)) rfl, fun _ h => h, ev_mulS (.inl (by have := enumI_mem (mem_mid e); omega)) (ev_var rfl) (ev_var rfl)⟩)) (eo_some ev_int) eo_no).cast (cut_tail _)))) ⟨_, _, rfl, hp, by rw [List.length_tail, List.length_map, enumI_len]; omega, rfl⟩)
end
end Cw
set_option maxHeartbeats 4000000
namespace Cw
open PySem PySem.Spec PyProof.Rows L2
open C8 (Cal Met Mak pe_c pe_mk pe_mt pe_mt0 pe_gc InsC call_isC)
section
variable {P : Program} {w : World} {K : Fg} {mg : Str → Option Value} {base : Heap} {f : Addr} {fd : FuncData}
abbrev s_is_whole : Stmt := top 9
abbrev nm_is_whole : List Str := ["value"]
theorem sc_is_whole : FnScope nm_is_whole ["value"] (defScope s_is_whole) := ⟨rfl, rfl, rfl, by decide +kernel, rfl, by decide +kernel, by decide +kernel⟩
theorem ok_is_whole (fx : Fx K mg) (F : FunD K "is_whole" "is_whole" (defArgs s_is_whole) (defBody s_is_whole) (defScope s_is_whole) [] [] f fd) : FnOk P w K mg base CX0 1 f fd ["value"] (spD K p_is_whole) := by
  refine F.ok sc_is_whole (spD_len (n := 1) ?_) (fun cdv A outer s H vs Q E hr h => ⟨_, PSs.nox ((pss_one (ps_ret (pe_and (pe_callB (isiS K) (by rfl) fx.b_isinstance (by decide +kernel) (pa_cons (pv 0) (pa_cons (pe_bltn (by rfl) fx.b_int (by decide +kernel) (show RelV (.ty "int") _ from rfl)) pa_nil))) (pe_one (pe_not (pe_callB (isiS K) (by rfl) fx.b_isinstance (by decide +kernel) (pa_cons (pv 0) (pa_cons (pe_bltn (by rfl) fx.b_bool (by decide +kernel) (show RelV (.ty "bool") _ from rfl)) pa_nil))))))))), run_def (N := nm_is_whole) (fun ds d p => ?_) vs H Q E h⟩)
  · rintro ds d ⟨_, rfl, _⟩; rfl
  ·
    obtain ⟨i, rfl, _, rfl⟩ := p
    show StD K _ [.val (.int i)] _
    exact st_ret ((ev_andV (ev_isi (m := "int") (b := true) (ev_var rfl) ty_int (by decide +kernel)) fun _ => ev_notV (ev_isi (b := false) (m := "int") (ev_var rfl) ty_int (by decide +kernel))).cast rfl)
abbrev s_is_between : Stmt := top 10
abbrev nm_is_between : List Str := ["value", "low", "high"]
theorem sc_is_between : FnScope nm_is_between ["value", "low", "high"] (defScope s_is_between) := ⟨rfl, rfl, rfl, by decide +kernel, rfl, by decide +kernel, by decide +kernel⟩
theorem ok_is_between (fx : Fx K mg) (c_is_whole : Cal P w K mg base 1 "is_whole" (spD K p_is_whole) []) (F : FunD K "is_between" "is_between" (defArgs s_is_between) (defBody s_is_between) (defScope s_is_between) [] [] f fd) : FnOk P w K mg base CX0 2 f fd ["value", "low", "high"] (spD K p_is_between) := by
  refine F.ok sc_is_between (spD_len (n := 3) ?_) (fun cdv A outer s H vs Q E hr h => ⟨_, PSs.nox ((pss_one (ps_ret (pe_and (pe_c c_is_whole hr (by decide) rfl (pa_cons (pv 0) pa_nil)) (pe_and (pe_cmpR op_ge (pv 0) (pv 1) (nomark _)) (pe_one (pe_or (pe_cmpR op_isN (pv 2) pe_non (nomark _)) (pe_one (pe_cmpR op_le (pv 0) (pv 2) (nomark _)))))))))), run_def (N := nm_is_between) (fun ds d p => ?_) vs H Q E h⟩)
  · rintro ds d ⟨_, _, _, rfl, _⟩; rfl
  ·
    obtain ⟨v, lo, hi, rfl, _, rfl⟩ := p
    show StD K _ [.val (.int v), .val (.int lo), .val (.int hi)] _
    exact st_ret ((ev_andV (ev_call (ea1 (ev_var rfl)) ⟨_, rfl, trivial, rfl⟩) fun _ => ev_andV (ev_ge (ev_var rfl) (ev_var rfl)) fun _ => ev_orV (ev_isN0 (ev_var rfl)) fun _ => ev_le (ev_var rfl) (ev_var rfl)).cast (by simp))
abbrev s_check_prime : Stmt := top 11
abbrev nm_check_prime : List Str := ["p"]
theorem sc_check_prime : FnScope nm_check_prime ["p"] (defScope s_check_prime) := ⟨rfl, rfl, rfl, by decide +kernel, rfl, by decide +kernel, by decide +kernel⟩
theorem ok_check_prime (fx : Fx K mg) (c_is_whole : Cal P w K mg base 1 "is_whole" (spD K p_is_whole) []) (F : FunD K "check_prime" "check_prime" (defArgs s_check_prime) (defBody s_check_prime) (defScope s_check_prime) [] [] f fd) : FnOk P w K mg base CX0 2 f fd ["p"] (spD K p_check_prime) := by
  refine F.ok sc_check_prime (spD_len (n := 1) ?_) (fun cdv A outer s H vs Q E hr h => ⟨_, PSs.nox ((pss_one (ps_if (PW.pt (pw_or (pt_not (pt_val (pe_c c_is_whole hr (by decide) rfl (pa_cons (pv 0) pa_nil)))) (pw_or1 (pt_cmpR (niS K) (pv 0) (pe_gc rfl fx.g_PRIMES) (by rfl))))) (pss_one ps_never) pss_nil))), run_defN (N := nm_check_prime) (fun ds d p => ?_) vs H Q E h⟩)
  · rintro ds d ⟨_, rfl, _⟩; rfl
  ·
    obtain ⟨p, rfl, hp, rfl⟩ := p
    refine ⟨rfl, [.val (.int p)], ?_⟩
    show StD K _ [.val (.int p)] _
    exact st_if (eb_or (eb_not (eb_val (ev_call (ea1 (ev_var rfl)) ⟨_, rfl, trivial, rfl⟩))) fun _ => eb_test (ev_inT (ns := [3, 5, 7, 11, 13]) (ev_var rfl) (ev_gtup (ns := [3, 5, 7, 11, 13]) fx.t_PRIMES))) (fun h => absurd h (by rcases hp with rfl | rfl | rfl | rfl | rfl <;> decide)) fun _ => st_nil
abbrev s_is_poly_list : Stmt := top 12
abbrev nm_is_poly_list : List Str := ["p", "value", "number"]
theorem sc_is_poly_list : FnScope nm_is_poly_list ["p", "value"] (defScope s_is_poly_list) := ⟨rfl, rfl, rfl, by decide +kernel, rfl, by decide +kernel, by decide +kernel⟩
theorem ok_is_poly_list (fx : Fx K mg) (c_is_between : Cal P w K mg base 2 "is_between" (spD K p_is_between) []) (F : FunD K "is_poly_list" "is_poly_list" (defArgs s_is_poly_list) (defBody s_is_poly_list) (defScope s_is_poly_list) [] [] f fd) : FnOk P w K mg base CX0 3 f fd ["p", "value"] (spD K p_is_poly_list) := by
  refine F.ok sc_is_poly_list (spD_len (n := 2) ?_) (fun cdv A outer s H vs Q E hr h => ⟨_, PSs.nox ((pss_cons (ps_if (PW.pt (pw_or (pt_not (pt_val (pe_callB (isiS K) (by rfl) fx.b_isinstance (by decide +kernel) (pa_cons (pv 1) (pa_cons (pe_bltn (by rfl) fx.b_list (by decide +kernel) (show RelV (.ty "list") _ from rfl)) pa_nil))))) (pw_or1 (pt_cmpR op_gt (pe_callB (lenS K) (by rfl) fx.b_len (by decide +kernel) (pa_cons (pv 1) pa_nil)) (pe_op op_add (pe_gc rfl fx.g_MOST_POWER) pe_int) (nomark _))))) (pss_one (ps_ret pe_bl)) pss_nil)
      (pss_cons (ps_if (pt_cmpR (opNe K hr.units) (pe_lc (own := [("number", 2)]) rfl sc_is_poly_list.nd (pil K (pv 1)) (blkOk_by (N := nm_is_poly_list) (sc := defScope s_is_poly_list) (by decide +kernel)) (fun _ _ _ _ _ => (pg_name (i := 2) sc_is_poly_list.nd rfl (by first | exact Or.inl rfl | exact Or.inr rfl))) (fun _ _ _ _ _ => (pts_one (pt_not (pt_val (pe_c c_is_between hr (by decide) rfl (pa_cons (pv 2) (pa_cons pe_int (pa_cons (pe_op op_sub (pv 0) pe_int) pa_nil)))))))) (fun _ _ _ _ _ => (pv 2))) (pe_lst pa_nil) (nomark _)) (pss_one (ps_ret pe_bl)) pss_nil)
      (pss_one (ps_ret (pe_or (pe_cmpR (opEq K hr.units) (pv 1) (pe_lst pa_nil) (nomark _)) (pe_one (pe_cmpR op_ne (pe_ix (ixl K) (pv 1) (pe_un un_neg pe_int) (fun _ _ => rfl)) pe_int (nomark _))))))))), run_def (N := nm_is_poly_list) (fun ds d p => ?_) vs H Q E h⟩)
  · rintro ds d ⟨_, _, rfl, _⟩; rfl
  ·
    obtain ⟨p, a, rfl, hp, na, hl, rfl⟩ := p
    have hLM : LM = 1000000 := rfl
    show StD K _ [.val (.int p), .val (inD a), .un] _
    refine st_ifS (eb_or (eb_not (eb_val (ev_isi (m := "list") (b := true) (ev_var rfl) ty_lst (by decide +kernel)))) fun _ => eb_test (ev_gt (ev_lenL (ev_var rfl).h) (ev_add ev_int ev_int))) (fun h => absurd h (by simp; omega)) fun _ => st_seqN ?_
    have hf : (a.filter fun x => !(decide (0 ≤ x) && decide (x ≤ p - 1))) = [] := by
      rw [List.filter_eq_nil_iff]
      intro x hx
      have := na.1 x hx
      simp; omega
    refine st_ifS (eb_test (ev_ne0 (eh_pub (en_lcF D.int (fun x => !(decide (0 ≤ x) && decide (x ≤ p - 1))) (fun x => x) (LMs (by omega)) (it_list (ev_var rfl)) fun _ _ _ _ => ⟨_, _, tg_name, fun _ h => h, eb_not (eb_val (ev_call (ea3 (ev_var rfl) ev_int (ev_sub (ev_var rfl) ev_int)) ⟨_, _, _, rfl, trivial, rfl⟩)), fun _ => ev_var rfl⟩)))) (fun h => absurd h (by rw [hf]; simp)) fun _ => st_seqN ?_
    refine st_ret ((ev_orV (ev_eq0 (ev_var rfl).h) fun h => ev_neI (ev_ixN (by simpa using h) (ev_var rfl) ev_m1) ev_int).cast ?_)
    by_cases q : a = []
    · simp [q]
    · simp [q, na.2 q]
abbrev s_check_poly : Stmt := top 13
abbrev nm_check_poly : List Str := ["p", "value"]
theorem sc_check_poly : FnScope nm_check_poly ["p", "value"] (defScope s_check_poly) := ⟨rfl, rfl, rfl, by decide +kernel, rfl, by decide +kernel, by decide +kernel⟩
theorem ok_check_poly (fx : Fx K mg) (c_is_poly_list : Cal P w K mg base 3 "is_poly_list" (spD K p_is_poly_list) []) (F : FunD K "check_poly" "check_poly" (defArgs s_check_poly) (defBody s_check_poly) (defScope s_check_poly) [] [] f fd) : FnOk P w K mg base CX0 4 f fd ["p", "value"] (spD K p_check_poly) := by
  refine F.ok sc_check_poly (spD_len (n := 2) ?_) (fun cdv A outer s H vs Q E hr h => ⟨_, PSs.nox ((pss_one (ps_if (pt_not (pt_val (pe_c c_is_poly_list hr (by decide) rfl (pa_cons (pv 0) (pa_cons (pv 1) pa_nil))))) (pss_one ps_never) pss_nil))), run_defN (N := nm_check_poly) (fun ds d p => ?_) vs H Q E h⟩)
  · rintro ds d ⟨_, _, rfl, _⟩; rfl
  ·
    obtain ⟨p, a, rfl, hp, na, hl, rfl⟩ := p
    refine ⟨rfl, [.val (.int p), .val (inD a)], ?_⟩
    show StD K _ [.val (.int p), .val (inD a)] _
    exact st_if (eb_not (eb_val (ev_call (ea2 (ev_var rfl) (ev_var rfl)) ⟨_, _, rfl, hp, na, hl, rfl⟩))) (fun h => absurd h (by simp)) fun _ => st_nil
end
end Cw
set_option maxHeartbeats 4000000
namespace Cw
open PySem PySem.Spec PyProof.Rows L2
open C8 (Cal Met Mak pe_c pe_mk pe_mt pe_mt0 pe_gc InsC call_isC)
section
variable {P : Program} {w : World} {K : Fg} {mg : Str → Option Value} {base : Heap} {f : Addr} {fd : FuncData}
abbrev s_Curve___init__ : Stmt := inClass (top 28) 0
abbrev nm_Curve___init__ : List Str := ["self", "p", "f"]
theorem sc_Curve___init__ : FnScope nm_Curve___init__ ["self", "p", "f"] (defScope s_Curve___init__) := ⟨rfl, rfl, rfl, by decide +kernel, rfl, by decide +kernel, by decide +kernel⟩
theorem ok_Curve___init__ (fx : Fx K mg) (c_check_prime : Cal P w K mg base 2 "check_prime" (spD K p_check_prime) []) (c_is_curve_poly : Cal P w K mg base 6 "is_curve_poly" (spD K p_is_curve_poly) []) (F : FunD K "__init__" "Curve.__init__" (defArgs s_Curve___init__) (defBody s_Curve___init__) (defScope s_Curve___init__) [] [] f fd) : FnOk P w K mg base CX0 7 f fd ["self", "p", "f"] (spI K (He.ga K "Curve") (p_Curve___init__ K)) := by
  refine F.ok sc_Curve___init__ ?_ (fun cdv A outer s H vs Q E hr h => ⟨_, PSs.nox ((pss_cons (ps_expr (pe_c c_check_prime hr (by decide) rfl (pa_cons (pv 1) pa_nil)))
      (pss_cons (ps_if (pt_not (pt_val (pe_c c_is_curve_poly hr (by decide) rfl (pa_cons (pv 1) (pa_cons (pv 2) pa_nil))))) (pss_one ps_never) pss_nil)
      (pss_cons (ps_fld (pv 0) (pv 1) rfl)
      (pss_one (ps_fld (pv 0) (pe_callTy (lstOf K) (by rfl) fx.b_list (by decide +kernel) (pa_cons (pv 2) pa_nil)) rfl)))))), ?_⟩)
  · rintro vs H Q E ⟨F, x, dx, us, ds, ns, fs, rfl, _, r, _, _, ⟨p, f, rfl, _⟩, _⟩
    simp [r.len]
  · obtain ⟨F1, x, dx, us, ds, ns, fs, rfl, sf, r, hx, hf, ⟨p, f, rfl, ok, hd⟩, q⟩ := h
    cases hd
    have s := sokI (N := nm_Curve___init__) sf hf r
    refine raw_drop s (ev_call (ea1 (ev_var rfl)) ⟨p, rfl, ok.pm, rfl⟩) fun F2 H2 t2 => ?_
    refine raw_no (s.step t2) (eb_not (eb_val (ev_call (ea2 (ev_var rfl) (ev_var rfl)) ⟨p, f, rfl, ok, rfl⟩))) rfl fun F3 H3 t3 => ?_
    have t23 := t2.trans t3
    refine fld_apart (K := K) (i := 0) (ns := []) (ws := []) fx.ic_Curve.cl fx.n_Curve_prime (by simp) (by simp) (s.step t23) (ev_var (i := 1) rfl) rfl del_x (t23.kp hx hf).2 (t23.kp hx hf).1 rfl fun v4 F4 H4 t4 hf4 s4 r4 hx4 => ?_
    refine fld_apart (K := K) (i := 0) (ns := ["_prime"]) (ws := [v4]) fx.ic_Curve.cl fx.n_Curve_polynomial (by decide +kernel) (by simp) s4 (ev_pub (en_listof (ev_var (i := 2) rfl))) rfl del_x hf4 hx4 rfl fun v5 F5 H5 t5 hf5 s5 r5 hx5 => ?_
    exact init_end s5.st hf5 hx5 rfl (Reps.cons (Rep.mono t5.ff _ _ r4) (Reps.one r5)) q
abbrev s_Curve_prime : Stmt := inClass (top 28) 1
abbrev nm_Curve_prime : List Str := ["self"]
theorem sc_Curve_prime : FnScope nm_Curve_prime ["self"] (defScope s_Curve_prime) := ⟨rfl, rfl, rfl, by decide +kernel, rfl, by decide +kernel, by decide +kernel⟩
theorem ok_Curve_prime (fx : Fx K mg) (F : FunD K "prime" "Curve.prime" (defArgs s_Curve_prime) (defBody s_Curve_prime) (defScope s_Curve_prime) [] [] f fd) : FnOk P w K mg base CX0 1 f fd ["self"] (spD K (p_Curve_prime K)) := by
  refine F.ok sc_Curve_prime (spD_len (n := 1) ?_) (fun cdv A outer s H vs Q E hr h => ⟨_, PSs.nox ((pss_one (ps_ret (pfld K (pv 0) rfl)))), run_def (N := nm_Curve_prime) (fun ds d p => ?_) vs H Q E h⟩)
  · rintro ds d ⟨_, rfl, _⟩; rfl
  ·
    obtain ⟨c, rfl, _, rfl⟩ := p
    show StD K _ [.val (cvD K c)] _
    exact st_ret (ev_fld fx.ic_Curve.cl fx.n_Curve_prime rfl (ev_var rfl))
abbrev s_Curve_polynomial : Stmt := inClass (top 28) 2
abbrev nm_Curve_polynomial : List Str := ["self"]
theorem sc_Curve_polynomial : FnScope nm_Curve_polynomial ["self"] (defScope s_Curve_polynomial) := ⟨rfl, rfl, rfl, by decide +kernel, rfl, by decide +kernel, by decide +kernel⟩
theorem ok_Curve_polynomial (fx : Fx K mg) (F : FunD K "polynomial" "Curve.polynomial" (defArgs s_Curve_polynomial) (defBody s_Curve_polynomial) (defScope s_Curve_polynomial) [] [] f fd) : FnOk P w K mg base CX0 1 f fd ["self"] (spD K (p_Curve_polynomial K)) := by
  refine F.ok sc_Curve_polynomial (spD_len (n := 1) ?_) (fun cdv A outer s H vs Q E hr h => ⟨_, PSs.nox ((pss_one (ps_ret (pe_callTy (lstOf K) (by rfl) fx.b_list (by decide +kernel) (pa_cons (pfld K (pv 0) rfl) pa_nil))))), run_def (N := nm_Curve_polynomial) (fun ds d p => ?_) vs H Q E h⟩)
  · rintro ds d ⟨_, rfl, _⟩; rfl
  ·
    obtain ⟨c, rfl, _, rfl⟩ := p
    show StD K _ [.val (cvD K c)] _
    exact st_ret (ev_pub (en_listof (ev_fld fx.ic_Curve.cl fx.n_Curve_polynomial rfl (ev_var rfl))))
abbrev s_Curve_genus : Stmt := inClass (top 28) 3
abbrev nm_Curve_genus : List Str := ["self"]
theorem sc_Curve_genus : FnScope nm_Curve_genus ["self"] (defScope s_Curve_genus) := ⟨rfl, rfl, rfl, by decide +kernel, rfl, by decide +kernel, by decide +kernel⟩
theorem ok_Curve_genus (fx : Fx K mg) (F : FunD K "genus" "Curve.genus" (defArgs s_Curve_genus) (defBody s_Curve_genus) (defScope s_Curve_genus) [] [] f fd) : FnOk P w K mg base CX0 1 f fd ["self"] (spD K (p_Curve_genus K)) := by
  refine F.ok sc_Curve_genus (spD_len (n := 1) ?_) (fun cdv A outer s H vs Q E hr h => ⟨_, PSs.nox ((pss_one (ps_ret (pe_op op_fdiv (pe_op op_sub (pe_callB (lenS K) (by rfl) fx.b_len (by decide +kernel) (pa_cons (pfld K (pv 0) rfl) pa_nil)) pe_int) pe_int)))), run_def (N := nm_Curve_genus) (fun ds d p => ?_) vs H Q E h⟩)
  · rintro ds d ⟨_, rfl, _⟩; rfl
  ·
    obtain ⟨c, rfl, hl, rfl⟩ := p
    show StD K _ [.val (cvD K c)] _
    exact st_ret (ev_fdiv (by unfold CDiv; decide) (ev_sub (ev_lenL (ev_fld fx.ic_Curve.cl fx.n_Curve_polynomial rfl (ev_var rfl)).h) ev_int) ev_int)
abbrev s_Curve___eq__ : Stmt := inClass (top 28) 4
abbrev nm_Curve___eq__ : List Str := ["self", "other"]
theorem sc_Curve___eq__ : FnScope nm_Curve___eq__ ["self", "other"] (defScope s_Curve___eq__) := ⟨rfl, rfl, rfl, by decide +kernel, rfl, by decide +kernel, by decide +kernel⟩
theorem ok_Curve___eq__ (fx : Fx K mg) (F : FunD K "__eq__" "Curve.__eq__" (defArgs s_Curve___eq__) (defBody s_Curve___eq__) (defScope s_Curve___eq__) [] [] f fd) : FnOk P w K mg base CX0 1 f fd ["self", "other"] (spD K (p_Curve___eq__ K)) := by
  refine F.ok sc_Curve___eq__ (spD_len (n := 2) ?_) (fun cdv A outer s H vs Q E hr h => ⟨_, PSs.nox ((pss_cons (ps_if (pt_not (pt_val (pe_callB (call_isC fx.ic_Curve) (by rfl) fx.b_isinstance (by decide +kernel) (pa_cons (pv 1) (pa_cons (pe_gc rfl fx.g_Curve) pa_nil))))) (pss_one (ps_ret pe_bl)) pss_nil)
      (pss_one (ps_ret (pe_and (pe_cmpR op_eq (pfld K (pv 0) rfl) (pfld K (pv 1) rfl) (nomark _)) (pe_one (pe_cmpR (opEq K hr.units) (pfld K (pv 0) rfl) (pfld K (pv 1) rfl) (nomark _)))))))), run_def (N := nm_Curve___eq__) (fun ds d p => ?_) vs H Q E h⟩)
  · rintro ds d ⟨_, rfl, _⟩; rfl
  ·
    obtain ⟨c, rfl, _, rfl⟩ := p
    show StD K _ [.val (cvD K c), .val (cvD K c)] _
    refine st_ifS (eb_not (eb_val (ev_isC (ev_var rfl)))) (fun h => nomatch h) fun _ => st_seqN ?_
    exact st_ret ((ev_andV (ev_eqI (ev_fld fx.ic_Curve.cl fx.n_Curve_prime rfl (ev_var rfl)) (ev_fld fx.ic_Curve.cl fx.n_Curve_prime rfl (ev_var rfl))) fun _ => ev_eqL (a := c.2) (b := c.2) like_ints (by decide) (ev_fld fx.ic_Curve.cl fx.n_Curve_polynomial rfl (ev_var rfl)).h (ev_fld fx.ic_Curve.cl fx.n_Curve_polynomial rfl (ev_var rfl)).h).cast (by simp))
abbrev s_is_curve_poly : Stmt := top 29
abbrev nm_is_curve_poly : List Str := ["p", "value"]
theorem sc_is_curve_poly : FnScope nm_is_curve_poly ["p", "value"] (defScope s_is_curve_poly) := ⟨rfl, rfl, rfl, by decide +kernel, rfl, by decide +kernel, by decide +kernel⟩
theorem ok_is_curve_poly (fx : Fx K mg) (c_common_of : Cal P w K mg base 5 "common_of" (spD K p_common_of) []) (c_is_poly_list : Cal P w K mg base 3 "is_poly_list" (spD K p_is_poly_list) []) (c_slope_of : Cal P w K mg base 2 "slope_of" (spD K p_slope_of) []) (F : FunD K "is_curve_poly" "is_curve_poly" (defArgs s_is_curve_poly) (defBody s_is_curve_poly) (defScope s_is_curve_poly) [] [] f fd) : FnOk P w K mg base CX0 6 f fd ["p", "value"] (spD K p_is_curve_poly) := by
  refine F.ok sc_is_curve_poly (spD_len (n := 2) ?_) (fun cdv A outer s H vs Q E hr h => ⟨_, PSs.nox ((pss_cons (ps_if (PW.pt (pw_or (pt_not (pt_val (pe_c c_is_poly_list hr (by decide) rfl (pa_cons (pv 0) (pa_cons (pv 1) pa_nil))))) (pw_or (pt_cmpR (niS K) (pe_callB (lenS K) (by rfl) fx.b_len (by decide +kernel) (pa_cons (pv 1) pa_nil)) (pe_lst (pa_cons pe_int (pa_cons pe_int (pa_cons pe_int (pa_cons pe_int pa_nil))))) (by rfl)) (pw_or1 (pt_cmpR op_ne (pe_ix (ixl K) (pv 1) (pe_un un_neg pe_int) (fun _ _ => rfl)) pe_int (nomark _)))))) (pss_one (ps_ret pe_bl)) pss_nil)
      (pss_one (ps_ret (pe_cmpR (opEq K hr.units) (pe_c c_common_of hr (by decide) rfl (pa_cons (pv 0) (pa_cons (pv 1) (pa_cons (pe_c c_slope_of hr (by decide) rfl (pa_cons (pv 0) (pa_cons (pv 1) pa_nil))) pa_nil)))) (pe_lst (pa_cons pe_int pa_nil)) (nomark _)))))), run_def (N := nm_is_curve_poly) (fun ds d p => ?_) vs H Q E h⟩)
  · rintro ds d ⟨_, _, rfl, _⟩; rfl
  ·
    obtain ⟨p, f, rfl, ok, rfl⟩ := p
    have hLM : LM = 1000000 := rfl
    have hpp := ok.pm.pos
    have hln := ok.ln
    simp only at hln
    have hne : f ≠ [] := by intro z; rw [z] at hln; simp at hln
    have hdl := pder_len (p := p) (a := f)
    show StD K _ [.val (.int p), .val (inD f)] _
    refine st_ifS (x := false) ((eb_or (eb_not (eb_val (ev_call (ea2 (ev_var rfl) (ev_var rfl)) ⟨p, f, rfl, hpp, ok.nr, by omega, rfl⟩))) fun _ => eb_or (eb_test (ev_inL (neg := true) (ns := [2, 4, 6, 8]) (ev_lenL (ev_var rfl).h) (ev_pub (en_lst (ea4 ev_int ev_int ev_int ev_int) (by show 4 ≤ sizeLine; decide))))) fun _ => eb_test (ev_neI (ev_ixN hne (ev_var rfl) ev_m1) ev_int)).cast ?_) (fun h => nomatch h) fun _ => st_seqN ?_
    · have := ok.mo
      simp only at this
      rw [this]
      rcases hln with h | h | h | h <;> rw [h] <;> decide
    · refine st_ret ((ev_eqI1 (ev_call (ea3 (ev_var rfl) (ev_var rfl) (ev_call (ea2 (ev_var rfl) (ev_var rfl)) ⟨p, f, rfl, hpp, by omega, rfl⟩)) ⟨p, f, _, rfl, ok.pm, by omega, ok.nr, trim_nrm hpp _, rfl⟩).h).cast ?_)
      have := ok.sq
      simp only at this
      rw [this]
      rfl
abbrev s_check_curve : Stmt := top 30
abbrev nm_check_curve : List Str := ["curve"]
theorem sc_check_curve : FnScope nm_check_curve ["curve"] (defScope s_check_curve) := ⟨rfl, rfl, rfl, by decide +kernel, rfl, by decide +kernel, by decide +kernel⟩
theorem ok_check_curve (fx : Fx K mg) (F : FunD K "check_curve" "check_curve" (defArgs s_check_curve) (defBody s_check_curve) (defScope s_check_curve) [] [] f fd) : FnOk P w K mg base CX0 1 f fd ["curve"] (spD K (p_check_curve K)) := by
  refine F.ok sc_check_curve (spD_len (n := 1) ?_) (fun cdv A outer s H vs Q E hr h => ⟨_, PSs.nox ((pss_one (ps_if (pt_not (pt_val (pe_callB (call_isC fx.ic_Curve) (by rfl) fx.b_isinstance (by decide +kernel) (pa_cons (pv 0) (pa_cons (pe_gc rfl fx.g_Curve) pa_nil))))) (pss_one ps_never) pss_nil))), run_defN (N := nm_check_curve) (fun ds d p => ?_) vs H Q E h⟩)
  · rintro ds d ⟨_, rfl, _⟩; rfl
  ·
    obtain ⟨c, rfl, _, rfl⟩ := p
    refine ⟨rfl, [.val (cvD K c)], ?_⟩
    show StD K _ [.val (cvD K c)] _
    exact st_if (eb_not (eb_val (ev_isC (ev_var rfl)))) (fun h => nomatch h) fun _ => st_nil
end
end Cw
set_option maxHeartbeats 4000000
namespace Cw
open PySem PySem.Spec PyProof.Rows L2
open C8 (Cal Met Mak pe_c pe_mk pe_mt pe_mt0 pe_gc InsC call_isC)
section
variable {P : Program} {w : World} {K : Fg} {mg : Str → Option Value} {base : Heap} {f : Addr} {fd : FuncData}
abbrev s_Function___init__ : Stmt := inClass (top 32) 0
abbrev nm_Function___init__ : List Str := ["self", "curve", "top", "side", "bottom", "part"]
theorem sc_Function___init__ : FnScope nm_Function___init__ ["self", "curve", "top", "side", "bottom"] (defScope s_Function___init__) := ⟨rfl, rfl, rfl, by decide +kernel, rfl, by decide +kernel, by decide +kernel⟩
theorem ok_Function___init__ (fx : Fx K mg) (c_least_parts : Cal P w K mg base 6 "least_parts" (spD K p_least_parts) []) (c_check_poly : Cal P w K mg base 4 "check_poly" (spD K p_check_poly) []) (m_Curve_prime : Met P w K mg base 1 (He.ga K "Curve") "prime" (spD K (p_Curve_prime K)) []) (F : FunD K "__init__" "Function.__init__" (defArgs s_Function___init__) (defBody s_Function___init__) (defScope s_Function___init__) [] [] f fd) : FnOk P w K mg base CX0 7 f fd ["self", "curve", "top", "side", "bottom"] (spI K (He.ga K "Function") (p_Function___init__ K)) := by
  refine F.ok sc_Function___init__ ?_ (fun cdv A outer s H vs Q E hr h => ⟨_, PSs.nox ((pss_cons (ps_if (pt_not (pt_val (pe_callB (call_isC fx.ic_Curve) (by rfl) fx.b_isinstance (by decide +kernel) (pa_cons (pv 1) (pa_cons (pe_gc rfl fx.g_Curve) pa_nil))))) (pss_one ps_never) pss_nil)
      (pss_cons (ps_for PassesOwn.never rfl (pit K (pe_tup (pa_cons (pv 2) (pa_cons (pv 3) (pa_cons (pv 4) pa_nil))))) (pg_name (i := 5) sc_Function___init__.nd rfl (by first | exact Or.inl rfl | exact Or.inr rfl))
      (pss_one (ps_expr (pe_c c_check_poly hr (by decide) rfl (pa_cons (pe_mt0 m_Curve_prime hr (by decide) (pv 1)) (pa_cons (pv 5) pa_nil))))))
      (pss_cons (ps_if (pt_cmpR (opEq K hr.units) (pv 4) (pe_lst pa_nil) (nomark _)) (pss_one ps_never) pss_nil)
      (pss_cons (ps_fld (pv 0) (pv 1) rfl)
      (pss_one (ps_fld (pv 0) (pe_c c_least_parts hr (by decide) rfl (pa_cons (pe_mt0 m_Curve_prime hr (by decide) (pv 1)) (pa_cons (pv 2) (pa_cons (pv 3) (pa_cons (pv 4) pa_nil))))) rfl))))))), ?_⟩)
  · rintro vs H Q E ⟨F, x, dx, us, ds, ns, fs, rfl, _, r, _, _, ⟨c, t, s, b, rfl, _⟩, _⟩
    simp [r.len]
  · obtain ⟨F1, x, dx, us, ds, ns, fs, rfl, sf, r, hx, hf, ⟨c, t, s, b, rfl, ⟨cv, nt, ns', nb, hb, l1, l2, l3⟩, hd⟩, q⟩ := h
    cases hd
    have hLM : LM = 1000000 := rfl
    have sk := sokI (N := nm_Function___init__) sf hf r
    refine raw_no sk (eb_not (eb_val (ev_isC (ev_var rfl)))) rfl fun F2 H2 t2 => ?_
    refine raw_for (j := 5) rfl (it_tup (ev_tup (ea3 (ev_var (i := 2) rfl) (ev_var (i := 3) rfl) (ev_var (i := 4) rfl)) (by show 3 ≤ sizeLine; decide))) (fun d hd => ?_) (sk.step t2) fun σ' F3 H3 t3 s3 hs => ?_
    · simp only [List.mem_cons, List.not_mem_nil, or_false] at hd
      rcases hd with rfl | rfl | rfl
      · exact ⟨_, ev_call (ea2 (ev_meth (C := He.ga K "Curve") (by decide +kernel) (ev_var rfl) ea_nil ⟨c, rfl, trivial, rfl⟩) (ev_var rfl)) ⟨c.1, t, rfl, cv.pos, nt, l1, rfl⟩⟩
      · exact ⟨_, ev_call (ea2 (ev_meth (C := He.ga K "Curve") (by decide +kernel) (ev_var rfl) ea_nil ⟨c, rfl, trivial, rfl⟩) (ev_var rfl)) ⟨c.1, s, rfl, cv.pos, ns', l2, rfl⟩⟩
      · exact ⟨_, ev_call (ea2 (ev_meth (C := He.ga K "Curve") (by decide +kernel) (ev_var rfl) ea_nil ⟨c, rfl, trivial, rfl⟩) (ev_var rfl)) ⟨c.1, b, rfl, cv.pos, nb, l3, rfl⟩⟩
    refine raw_no s3 (eb_test (ev_eq0 (ev_var rfl).h)) (by simpa using hb) fun F4 H4 t4 => ?_
    have t234 := (t2.trans t3).trans t4
    refine fld_apart (K := K) (i := 0) (ns := []) (ws := []) fx.ic_Function.cl fx.n_Function_curve (by simp) (by simp) (s3.step t4) (ev_var (i := 1) rfl) (by rw [hs 0 (by decide)]; rfl) del_x (t234.kp hx hf).2 (t234.kp hx hf).1 rfl fun v5 F5 H5 t5 hf5 s5 r5 hx5 => ?_
    refine fld_apart (K := K) (i := 0) (ns := ["_curve"]) (ws := [v5]) fx.ic_Function.cl fx.n_Function_parts (by decide +kernel) (by simp) s5 (ev_call (ea4 (ev_meth (C := He.ga K "Curve") (by decide +kernel) (ev_var (i := 1) rfl) ea_nil ⟨c, rfl, trivial, rfl⟩) (ev_var (i := 2) rfl) (ev_var (i := 3) rfl) (ev_var (i := 4) rfl)) ⟨c.1, t, s, b, rfl, ⟨cv.pm, nt, ns', nb, hb, by omega, by omega, by omega⟩, rfl⟩) (by rw [hs 0 (by decide)]; rfl) del_x hf5 hx5 rfl fun v6 F6 H6 t6 hf6 s6 r6 hx6 => ?_
    exact init_end s6.st hf6 hx6 rfl (Reps.cons (Rep.mono t6.ff _ _ r5) (Reps.one r6)) q
abbrev s_Function_curve : Stmt := inClass (top 32) 1
abbrev nm_Function_curve : List Str := ["self"]
theorem sc_Function_curve : FnScope nm_Function_curve ["self"] (defScope s_Function_curve) := ⟨rfl, rfl, rfl, by decide +kernel, rfl, by decide +kernel, by decide +kernel⟩
theorem ok_Function_curve (fx : Fx K mg) (F : FunD K "curve" "Function.curve" (defArgs s_Function_curve) (defBody s_Function_curve) (defScope s_Function_curve) [] [] f fd) : FnOk P w K mg base CX0 1 f fd ["self"] (spD K (p_Function_curve K)) := by
  refine F.ok sc_Function_curve (spD_len (n := 1) ?_) (fun cdv A outer s H vs Q E hr h => ⟨_, PSs.nox ((pss_one (ps_ret (pfld K (pv 0) rfl)))), run_def (N := nm_Function_curve) (fun ds d p => ?_) vs H Q E h⟩)
  · rintro ds d ⟨_, _, rfl, _⟩; rfl
  ·
    obtain ⟨c, T, rfl, _, rfl⟩ := p
    show StD K _ [.val (fnD K c T)] _
    exact st_ret (ev_fld fx.ic_Function.cl fx.n_Function_curve rfl (ev_var rfl))
abbrev s_Function_top : Stmt := inClass (top 32) 2
abbrev nm_Function_top : List Str := ["self"]
theorem sc_Function_top : FnScope nm_Function_top ["self"] (defScope s_Function_top) := ⟨rfl, rfl, rfl, by decide +kernel, rfl, by decide +kernel, by decide +kernel⟩
theorem ok_Function_top (fx : Fx K mg) (F : FunD K "top" "Function.top" (defArgs s_Function_top) (defBody s_Function_top) (defScope s_Function_top) [] [] f fd) : FnOk P w K mg base CX0 1 f fd ["self"] (spD K (p_Function_top K)) := by
  refine F.ok sc_Function_top (spD_len (n := 1) ?_) (fun cdv A outer s H vs Q E hr h => ⟨_, PSs.nox ((pss_one (ps_ret (pe_callTy (lstOf K) (by rfl) fx.b_list (by decide +kernel) (pa_cons (pe_ix (ixl K) (pfld K (pv 0) rfl) pe_int (fun _ _ => rfl)) pa_nil))))), run_def (N := nm_Function_top) (fun ds d p => ?_) vs H Q E h⟩)
  · rintro ds d ⟨_, _, rfl, _⟩; rfl
  ·
    obtain ⟨c, T, rfl, _, rfl⟩ := p
    show StD K _ [.val (fnD K c T)] _
    exact st_ret (ev_pub (en_listof (ev_ixL (d := inD T.1) rfl (ev_fld (d := lsD inD [T.1, T.2.1, T.2.2]) fx.ic_Function.cl fx.n_Function_parts rfl (ev_var rfl)) ev_int)))
abbrev s_Function_side : Stmt := inClass (top 32) 3
abbrev nm_Function_side : List Str := ["self"]
theorem sc_Function_side : FnScope nm_Function_side ["self"] (defScope s_Function_side) := ⟨rfl, rfl, rfl, by decide +kernel, rfl, by decide +kernel, by decide +kernel⟩
theorem ok_Function_side (fx : Fx K mg) (F : FunD K "side" "Function.side" (defArgs s_Function_side) (defBody s_Function_side) (defScope s_Function_side) [] [] f fd) : FnOk P w K mg base CX0 1 f fd ["self"] (spD K (p_Function_side K)) := by
  refine F.ok sc_Function_side (spD_len (n := 1) ?_) (fun cdv A outer s H vs Q E hr h => ⟨_, PSs.nox ((pss_one (ps_ret (pe_callTy (lstOf K) (by rfl) fx.b_list (by decide +kernel) (pa_cons (pe_ix (ixl K) (pfld K (pv 0) rfl) pe_int (fun _ _ => rfl)) pa_nil))))), run_def (N := nm_Function_side) (fun ds d p => ?_) vs H Q E h⟩)
  · rintro ds d ⟨_, _, rfl, _⟩; rfl
  ·
    obtain ⟨c, T, rfl, _, rfl⟩ := p
    show StD K _ [.val (fnD K c T)] _
    exact st_ret (ev_pub (en_listof (ev_ixL (d := inD T.2.1) rfl (ev_fld (d := lsD inD [T.1, T.2.1, T.2.2]) fx.ic_Function.cl fx.n_Function_parts rfl (ev_var rfl)) ev_int)))
abbrev s_Function_bottom : Stmt := inClass (top 32) 4
abbrev nm_Function_bottom : List Str := ["self"]
theorem sc_Function_bottom : FnScope nm_Function_bottom ["self"] (defScope s_Function_bottom) := ⟨rfl, rfl, rfl, by decide +kernel, rfl, by decide +kernel, by decide +kernel⟩
theorem ok_Function_bottom (fx : Fx K mg) (F : FunD K "bottom" "Function.bottom" (defArgs s_Function_bottom) (defBody s_Function_bottom) (defScope s_Function_bottom) [] [] f fd) : FnOk P w K mg base CX0 1 f fd ["self"] (spD K (p_Function_bottom K)) := by
  refine F.ok sc_Function_bottom (spD_len (n := 1) ?_) (fun cdv A outer s H vs Q E hr h => ⟨_, PSs.nox ((pss_one (ps_ret (pe_callTy (lstOf K) (by rfl) fx.b_list (by decide +kernel) (pa_cons (pe_ix (ixl K) (pfld K (pv 0) rfl) pe_int (fun _ _ => rfl)) pa_nil))))), run_def (N := nm_Function_bottom) (fun ds d p => ?_) vs H Q E h⟩)
  · rintro ds d ⟨_, _, rfl, _⟩; rfl
  ·
    obtain ⟨c, T, rfl, _, rfl⟩ := p
    show StD K _ [.val (fnD K c T)] _
    exact st_ret (ev_pub (en_listof (ev_ixL (d := inD T.2.2) rfl (ev_fld (d := lsD inD [T.1, T.2.1, T.2.2]) fx.ic_Function.cl fx.n_Function_parts rfl (ev_var rfl)) ev_int)))
abbrev s_Function___eq__ : Stmt := inClass (top 32) 5
abbrev nm_Function___eq__ : List Str := ["self", "other"]
theorem sc_Function___eq__ : FnScope nm_Function___eq__ ["self", "other"] (defScope s_Function___eq__) := ⟨rfl, rfl, rfl, by decide +kernel, rfl, by decide +kernel, by decide +kernel⟩
theorem ok_Function___eq__ (fx : Fx K mg) (m_Curve___eq__ : Met P w K mg base 1 (He.ga K "Curve") "__eq__" (spD K (p_Curve___eq__ K)) []) (F : FunD K "__eq__" "Function.__eq__" (defArgs s_Function___eq__) (defBody s_Function___eq__) (defScope s_Function___eq__) [] [] f fd) : FnOk P w K mg base CX0 2 f fd ["self", "other"] (spD K (p_Function___eq__ K)) := by
  refine F.ok sc_Function___eq__ (spD_len (n := 2) ?_) (fun cdv A outer s H vs Q E hr h => ⟨_, PSs.nox ((pss_cons (ps_if (pt_not (pt_val (pe_callB (call_isC fx.ic_Function) (by rfl) fx.b_isinstance (by decide +kernel) (pa_cons (pv 1) (pa_cons (pe_gc rfl fx.g_Function) pa_nil))))) (pss_one (ps_ret pe_bl)) pss_nil)
      (pss_one (ps_ret (pe_and (pe_cmpR (opOwn m_Curve___eq__ hr (by decide)) (pfld K (pv 0) rfl) (pfld K (pv 1) rfl) (nomark _)) (pe_one (pe_cmpR (opEq K hr.units) (pfld K (pv 0) rfl) (pfld K (pv 1) rfl) (nomark _)))))))), run_def (N := nm_Function___eq__) (fun ds d p => ?_) vs H Q E h⟩)
  · rintro ds d ⟨_, _, _, rfl, _⟩; rfl
  ·
    obtain ⟨c, T, U, rfl, _, rfl⟩ := p
    show StD K _ [.val (fnD K c T), .val (fnD K c U)] _
    refine st_ifS (eb_not (eb_val (ev_isC (ev_var rfl)))) (fun h => nomatch h) fun _ => st_seqN ?_
    exact st_ret ((ev_andV (ev_own (ev_fld fx.ic_Function.cl fx.n_Function_curve rfl (ev_var rfl)) (ev_fld fx.ic_Function.cl fx.n_Function_curve rfl (ev_var rfl)) ⟨c, rfl, trivial, rfl⟩) fun _ => ev_eqL (a := [T.1, T.2.1, T.2.2]) (b := [U.1, U.2.1, U.2.2]) (like_lst like_ints) (by decide) (ev_fld fx.ic_Function.cl fx.n_Function_parts rfl (ev_var rfl)).h (ev_fld fx.ic_Function.cl fx.n_Function_parts rfl (ev_var rfl)).h).cast (by
      rw [Bool.true_and]
      congr 1
      refine decide_eq_decide.mpr ⟨fun h => ?_, fun h => by rw [h]⟩
      obtain ⟨a, b, c⟩ := T
      obtain ⟨a', b', c'⟩ := U
      simp at h
      rw [h.1, h.2.1, h.2.2]))
abbrev s_least_parts : Stmt := top 33
abbrev nm_least_parts : List Str := ["p", "top", "side", "bottom", "common", "parts", "back", "part"]
theorem sc_least_parts : FnScope nm_least_parts ["p", "top", "side", "bottom"] (defScope s_least_parts) := ⟨rfl, rfl, rfl, by decide +kernel, rfl, by decide +kernel, by decide +kernel⟩
theorem ok_least_parts (fx : Fx K mg) (c_common_of : Cal P w K mg base 5 "common_of" (spD K p_common_of) []) (c_inverse : Cal P w K mg base 1 "inverse" (spD K p_inverse) []) (c_whole_part : Cal P w K mg base 3 "whole_part" (spD K p_whole_part) []) (c_scaled : Cal P w K mg base 2 "scaled" (spD K p_scaled) []) (F : FunD K "least_parts" "least_parts" (defArgs s_least_parts) (defBody s_least_parts) (defScope s_least_parts) [] [] f fd) : FnOk P w K mg base CX0 6 f fd ["p", "top", "side", "bottom"] (spD K p_least_parts) := by
  refine F.ok sc_least_parts (spD_len (n := 4) ?_) (fun cdv A outer s H vs Q E hr h => ⟨_, PSs.nox ((pss_cons (ps_set (i := 4) sc_least_parts.nd rfl (by first | exact Or.inl rfl | exact Or.inr rfl) (pe_c c_common_of hr (by decide) rfl (pa_cons (pv 0) (pa_cons (pe_c c_common_of hr (by decide) rfl (pa_cons (pv 0) (pa_cons (pv 1) (pa_cons (pv 2) pa_nil)))) (pa_cons (pv 3) pa_nil)))))
      (pss_cons (ps_setLc (i := 5) (own := [("part", 7)]) rfl sc_least_parts.nd rfl rfl (sw_true rfl rfl rfl (by decide +kernel)) (pit K (pe_tup (pa_cons (pv 1) (pa_cons (pv 2) (pa_cons (pv 3) pa_nil))))) (blkOk_by (N := nm_least_parts) (sc := defScope s_least_parts) (by decide +kernel)) (fun _ _ _ _ _ => (pg_name (i := 7) sc_least_parts.nd rfl (by first | exact Or.inl rfl | exact Or.inr rfl))) (fun _ _ _ _ _ => pts_nil) (fun _ _ _ _ _ => (pe_c c_whole_part hr (by decide) rfl (pa_cons (pv 0) (pa_cons (pv 7) (pa_cons (pv 4) pa_nil))))))
      (pss_cons (ps_set (i := 6) sc_least_parts.nd rfl (by first | exact Or.inl rfl | exact Or.inr rfl) (pe_c c_inverse hr (by decide) rfl (pa_cons (pv 0) (pa_cons (pe_ix (ixl K) (pe_ix (ixl K) (pv 5) pe_int (fun _ _ => rfl)) (pe_un un_neg pe_int) (fun _ _ => rfl)) pa_nil))))
      (pss_one (ps_ret (pe_lc (own := [("part", 7)]) rfl sc_least_parts.nd (pil K (pv 5)) (blkOk_by (N := nm_least_parts) (sc := defScope s_least_parts) (by decide +kernel)) (fun _ _ _ _ _ => (pg_name (i := 7) sc_least_parts.nd rfl (by first | exact Or.inl rfl | exact Or.inr rfl))) (fun _ _ _ _ _ => pts_nil) (fun _ _ _ _ _ => (pe_c c_scaled hr (by decide) rfl (pa_cons (pv 0) (pa_cons (pv 7) (pa_cons (pv 6) pa_nil)))))))))))), run_def (N := nm_least_parts) (fun ds d p => ?_) vs H Q E h⟩)
  · rintro ds d ⟨_, _, _, _, rfl, _⟩; rfl
  ·
    obtain ⟨p, t, s, b, rfl, ⟨hp, nt, ns, nb, hb, l1, l2, l3⟩, rfl⟩ := p
    have hLM : LM = 1000000 := rfl
    have hpg := hp.ge
    have hpl := hp.le
    have g2 := gcd_two hp nt ns
    have g := gcd_three hp nt ns nb hb
    have gl1 := pgcd_len hp nt ns
    have gl2 := dvd_len hp nb g.nr hb g.d3
    have q3 := quo_ne hp nb g.nr g.ne g.d3 hb
    have nq : Nrm p (pquo p b (pgcd p (pgcd p t s) b)) := pquo_nrm hp.pos
    have hm := nq.lmod q3
    have hlb := nq.lst q3
    obtain ⟨k1, k2, k3⟩ := pinv_mem hp hm
    have ql1 := pquo_len (p := p) (a := t) (b := pgcd p (pgcd p t s) b)
    have ql2 := pquo_len (p := p) (a := s) (b := pgcd p (pgcd p t s) b)
    have ql3 := pquo_len (p := p) (a := b) (b := pgcd p (pgcd p t s) b)
    unfold leastT
    show StD K _ [.val (.int p), .val (inD t), .val (inD s), .val (inD b), .un, .un, .un, .un] _
    refine st_seq (st_set (ev_call (ea3 (ev_var rfl) (ev_call (ea3 (ev_var rfl) (ev_var rfl) (ev_var rfl)) ⟨p, t, s, rfl, hp, by omega, nt, ns, rfl⟩) (ev_var rfl)) ⟨p, _, b, rfl, hp, by omega, g2.1, nb, rfl⟩)) ?_
    generalize pgcd p (pgcd p t s) b = gg at *
    show StD K _ [.val (.int p), .val (inD t), .val (inD s), .val (inD b), .val (inD gg), .un, .un, .un] _
    refine st_seq (st_setN (en_lcT (as := [t, s, b]) (enc := inD) inD (fun x => pquo p x gg) (by show 3 ≤ sizeLine; decide) (it_tup (ev_tup (ea3 (ev_var (i := 1) rfl) (ev_var (i := 2) rfl) (ev_var (i := 3) rfl)) (by show 3 ≤ sizeLine; decide))) fun pre x post e => ⟨_, _, tg_name, fun _ h => h, ev_call (ea3 (ev_var rfl) (ev_var rfl) (ev_var rfl)) ⟨p, x, gg, rfl, hp, ?_, by omega, g.ne, g.nr, rfl⟩⟩)) ?_
    · have hm := mem_mid e
      simp only [List.mem_cons, List.not_mem_nil, or_false] at hm
      rcases hm with rfl | rfl | rfl <;> omega
    show StD K _ [.val (.int p), .val (inD t), .val (inD s), .val (inD b), .val (inD gg), .own [inD (pquo p t gg), inD (pquo p s gg), inD (pquo p b gg)], .un, .un] _
    refine st_seq (st_set (ev_call (ea2 (ev_var rfl) (ev_ixN q3 (ev_ixO (d := inD (pquo p b gg)) rfl rfl ev_int) ev_m1)) ⟨p, _, rfl, hp, hm, by omega, rfl⟩)) ?_
    generalize pinv p (lastI (pquo p b gg)) = iv at *
    show StD K _ [.val (.int p), .val (inD t), .val (inD s), .val (inD b), .val (inD gg), .own [inD (pquo p t gg), inD (pquo p s gg), inD (pquo p b gg)], .val (.int iv), .un] _
    refine st_pub (i := 5) rfl ?_
    show StD K _ [.val (.int p), .val (inD t), .val (inD s), .val (inD b), .val (inD gg), .val (lsD inD [pquo p t gg, pquo p s gg, pquo p b gg]), .val (.int iv), .un] _
    refine st_ret (ev_pub (en_lcT (as := [pquo p t gg, pquo p s gg, pquo p b gg]) (enc := inD) inD (fun x => pscl p x iv) (by show 3 ≤ sizeLine; decide) (it_list (ev_var (i := 5) rfl)) fun pre x post e => ⟨_, _, tg_name, fun _ h => h, ev_call (ea3 (ev_var rfl) (ev_var rfl) (ev_var rfl)) ⟨p, x, iv, rfl, hp.pos, ?_, ⟨by omega, by omega⟩, rfl⟩⟩))
    have hm := mem_mid e
    simp only [List.mem_cons, List.not_mem_nil, or_false] at hm
    rcases hm with rfl | rfl | rfl <;> omega
abbrev s_made : Stmt := top 34
abbrev nm_made : List Str := ["curve", "top", "side", "bottom", "found"]
theorem sc_made : FnScope nm_made ["curve", "top", "side", "bottom"] (defScope s_made) := ⟨rfl, rfl, rfl, by decide +kernel, rfl, by decide +kernel, by decide +kernel⟩
theorem ok_made (fx : Fx K mg) (c_least_parts : Cal P w K mg base 6 "least_parts" (spD K p_least_parts) []) (m_Curve_prime : Met P w K mg base 1 (He.ga K "Curve") "prime" (spD K (p_Curve_prime K)) []) (m_Function : Mak P w K mg base 7 "Function" (He.ga K "Function") (spI K (He.ga K "Function") (p_Function___init__ K)) []) (F : FunD K "made" "made" (defArgs s_made) (defBody s_made) (defScope s_made) [] [] f fd) : FnOk P w K mg base CX0 9 f fd ["curve", "top", "side", "bottom"] (spD K (p_made K)) := by
  refine F.ok sc_made ?_ (fun cdv A outer s H vs Q E hr h => ⟨_, PSs.nox ((pss_cons (ps_set (i := 4) sc_made.nd rfl (by first | exact Or.inl rfl | exact Or.inr rfl) (pe_mk m_Function hr (by decide) rfl (pa_cons (pv 0) (pa_cons (pe_lst pa_nil) (pa_cons (pe_lst pa_nil) (pa_cons (pe_lst (pa_cons pe_int pa_nil)) pa_nil))))))
      (pss_cons (ps_fld (pv 4) (pe_c c_least_parts hr (by decide) rfl (pa_cons (pe_mt0 m_Curve_prime hr (by decide) (pv 0)) (pa_cons (pv 1) (pa_cons (pv 2) (pa_cons (pv 3) pa_nil))))) rfl)
      (pss_one (ps_ret (pv 4)))))), ?_⟩)
  · exact spD_len (P := p_made K) (n := 4) (by rintro ds d ⟨_, _, _, _, rfl, _⟩; rfl)
  · obtain ⟨F1, ds, d, sf, r, ⟨c, t, s, b, rfl, ⟨cv, nt, ns', nb, hb, l1, l2, l3⟩, rfl⟩, q⟩ := h
    have sk := sok0 (N := nm_made) sf r
    refine raw_mk (ea4 (ev_var (i := 0) rfl) (ev_pub en_lst0) (ev_pub en_lst0) (ev_pub (en_lst1 ev_int))) (⟨c, [], [], [1], rfl, ⟨cv, nrm_nil, nrm_nil, one_nrm cv.pm, by simp, by simp, by simp, by simp⟩, rfl⟩) sk fun x dx ws F2 H2 t2 h0 hf hx hw rr => ?_
    obtain ⟨v1, us, rfl, ra, v2, us', rfl, rb, rn⟩ := rr
    cases rn
    have s2 := (sk.step t2).setUn (j := 4) (some (.ref x)) rfl
    have h4 : ((start nm_made vs).set 4 (some (V.ref x)))[4]? = some (some (.ref x)) := List.getElem?_set_self (by rw [sk.len]; show 4 < 5; decide)
    refine fld_put (K := K) (i := 4) (ns := ["_curve", "_parts"]) (ws := [v1, v2]) (g := fun v => [v1, v]) fx.ic_Function.cl fx.n_Function_parts (by simp) s2 (ev_call (ea4 (ev_meth (C := He.ga K "Curve") (by decide +kernel) (ev_var (i := 0) rfl) ea_nil ⟨c, rfl, trivial, rfl⟩) (ev_var (i := 1) rfl) (ev_var (i := 2) rfl) (ev_var (i := 3) rfl)) ⟨c.1, t, s, b, rfl, ⟨cv.pm, nt, ns', nb, hb, l1, l2, l3⟩, rfl⟩) h4 h0 hf hx rfl (fun v => rfl) fun v F3 H3 t3 hf3 s3 r3 => ?_
    exact ⟨.ref x, h4, q (.ref x) (upd F3 x (.ins (He.ga K "Function") dx ((["_curve", "_parts"] : List Str).zip [v1, v]))) _ (s3.st.pub h0 hf3 upd_same) ⟨x, dx, [v1, v], rfl, upd_same, rfl, Reps.cons (Rep.mono (t3.ff.trans (same_new hf3)) _ _ ra) (Reps.one (Rep.mono (same_new hf3) _ _ r3))⟩⟩
abbrev s_parts_of : Stmt := top 35
abbrev nm_parts_of : List Str := ["function", "curve"]
theorem sc_parts_of : FnScope nm_parts_of ["function"] (defScope s_parts_of) := ⟨rfl, rfl, rfl, by decide +kernel, rfl, by decide +kernel, by decide +kernel⟩
theorem ok_parts_of (fx : Fx K mg) (m_Function_curve : Met P w K mg base 1 (He.ga K "Function") "curve" (spD K (p_Function_curve K)) []) (m_Curve_prime : Met P w K mg base 1 (He.ga K "Curve") "prime" (spD K (p_Curve_prime K)) []) (m_Curve_polynomial : Met P w K mg base 1 (He.ga K "Curve") "polynomial" (spD K (p_Curve_polynomial K)) []) (m_Function_top : Met P w K mg base 1 (He.ga K "Function") "top" (spD K (p_Function_top K)) []) (m_Function_side : Met P w K mg base 1 (He.ga K "Function") "side" (spD K (p_Function_side K)) []) (m_Function_bottom : Met P w K mg base 1 (He.ga K "Function") "bottom" (spD K (p_Function_bottom K)) []) (F : FunD K "parts_of" "parts_of" (defArgs s_parts_of) (defBody s_parts_of) (defScope s_parts_of) [] [] f fd) : FnOk P w K mg base CX0 2 f fd ["function"] (spD K (p_parts_of K)) := by
  refine F.ok sc_parts_of (spD_len (n := 1) ?_) (fun cdv A outer s H vs Q E hr h => ⟨_, PSs.nox ((pss_cons (ps_set (i := 1) sc_parts_of.nd rfl (by first | exact Or.inl rfl | exact Or.inr rfl) (pe_mt0 m_Function_curve hr (by decide) (pv 0)))
      (pss_one (ps_ret (pe_tup (pa_cons (pe_mt0 m_Curve_prime hr (by decide) (pv 1)) (pa_cons (pe_mt0 m_Curve_polynomial hr (by decide) (pv 1)) (pa_cons (pe_mt0 m_Function_top hr (by decide) (pv 0)) (pa_cons (pe_mt0 m_Function_side hr (by decide) (pv 0)) (pa_cons (pe_mt0 m_Function_bottom hr (by decide) (pv 0)) pa_nil)))))))))), run_def (N := nm_parts_of) (fun ds d p => ?_) vs H Q E h⟩)
  · rintro ds d ⟨_, _, rfl, _⟩; rfl
  ·
    obtain ⟨c, T, rfl, _, rfl⟩ := p
    show StD K _ [.val (fnD K c T), .un] _
    refine st_seq (st_set (ev_meth (C := He.ga K "Function") (by decide +kernel) (ev_var rfl) ea_nil ⟨c, T, rfl, trivial, rfl⟩)) ?_
    show StD K _ [.val (fnD K c T), .val (cvD K c)] _
    exact st_ret (ev_tup (ea_cons (ev_meth (C := He.ga K "Curve") (by decide +kernel) (ev_var rfl) ea_nil ⟨c, rfl, trivial, rfl⟩) (ea4 (ev_meth (C := He.ga K "Curve") (by decide +kernel) (ev_var rfl) ea_nil ⟨c, rfl, trivial, rfl⟩) (ev_meth (C := He.ga K "Function") (by decide +kernel) (ev_var rfl) ea_nil ⟨c, T, rfl, trivial, rfl⟩) (ev_meth (C := He.ga K "Function") (by decide +kernel) (ev_var rfl) ea_nil ⟨c, T, rfl, trivial, rfl⟩) (ev_meth (C := He.ga K "Function") (by decide +kernel) (ev_var rfl) ea_nil ⟨c, T, rfl, trivial, rfl⟩))) (by show 5 ≤ sizeLine; decide))
abbrev s_check_function : Stmt := top 36
abbrev nm_check_function : List Str := ["function"]
theorem sc_check_function : FnScope nm_check_function ["function"] (defScope s_check_function) := ⟨rfl, rfl, rfl, by decide +kernel, rfl, by decide +kernel, by decide +kernel⟩
theorem ok_check_function (fx : Fx K mg) (F : FunD K "check_function" "check_function" (defArgs s_check_function) (defBody s_check_function) (defScope s_check_function) [] [] f fd) : FnOk P w K mg base CX0 1 f fd ["function"] (spD K (p_check_function K)) := by
  refine F.ok sc_check_function (spD_len (n := 1) ?_) (fun cdv A outer s H vs Q E hr h => ⟨_, PSs.nox ((pss_one (ps_if (pt_not (pt_val (pe_callB (call_isC fx.ic_Function) (by rfl) fx.b_isinstance (by decide +kernel) (pa_cons (pv 0) (pa_cons (pe_gc rfl fx.g_Function) pa_nil))))) (pss_one ps_never) pss_nil))), run_defN (N := nm_check_function) (fun ds d p => ?_) vs H Q E h⟩)
  · rintro ds d ⟨_, _, rfl, _⟩; rfl
  ·
    obtain ⟨c, T, rfl, _, rfl⟩ := p
    refine ⟨rfl, [.val (fnD K c T)], ?_⟩
    show StD K _ [.val (fnD K c T)] _
    exact st_if (eb_not (eb_val (ev_isC (ev_var rfl)))) (fun h => nomatch h) fun _ => st_nil
end
end Cw
set_option maxHeartbeats 4000000
namespace Cw
open PySem PySem.Spec PyProof.Rows L2
open C8 (Cal Met Mak pe_c pe_mk pe_mt pe_mt0 pe_gc InsC call_isC)
section
variable {P : Program} {w : World} {K : Fg} {mg : Str → Option Value} {base : Heap} {f : Addr} {fd : FuncData}
abbrev s_every : Stmt := top 38
abbrev nm_every : List Str := ["p", "poly", "first"]
theorem sc_every : FnScope nm_every ["p", "poly", "first"] (defScope s_every) := ⟨rfl, rfl, rfl, by decide +kernel, rfl, by decide +kernel, by decide +kernel⟩
theorem ok_every (fx : Fx K mg) (c_trimmed : Cal P w K mg base 1 "trimmed" (spD K p_trimmed) []) (F : FunD K "every" "every" (defArgs s_every) (defBody s_every) (defScope s_every) [] [] f fd) : FnOk P w K mg base CX0 2 f fd ["p", "poly", "first"] (spD K p_every) := by
  refine F.ok sc_every (spD_len (n := 3) ?_) (fun cdv A outer s H vs Q E hr h => ⟨_, PSs.nox ((pss_one (ps_ret (pe_c c_trimmed hr (by decide) rfl (pa_cons (pv 0) (pa_cons (pe_stepL K (pv 1) (pv 2) (pv 0)) pa_nil)))))), run_def (N := nm_every) (fun ds d p => ?_) vs H Q E h⟩)
  · rintro ds d ⟨_, _, _, rfl, _⟩; rfl
  ·
    obtain ⟨p, l, i, rfl, ⟨hp, hl⟩, rfl⟩ := p
    have hLM : LM = 1000000 := rfl
    have hk := pickA_len (xs := l) (f := i) hp
    show StD K _ [.val (.int p), .val (inD l), .val (.int i)] _
    exact st_ret (ev_call (ea2 (ev_var rfl) (ev_pub (en_stepT hp (ev_var rfl) (ev_var rfl) (ev_var rfl)))) ⟨p, _, rfl, hp, by omega, rfl⟩)
abbrev s_tops_over : Stmt := top 39
abbrev nm_tops_over : List Str := ["function", "p", "f", "top", "side", "bottom", "rest"]
theorem sc_tops_over : FnScope nm_tops_over ["function"] (defScope s_tops_over) := ⟨rfl, rfl, rfl, by decide +kernel, rfl, by decide +kernel, by decide +kernel⟩
theorem ok_tops_over (fx : Fx K mg) (c_parts_of : Cal P w K mg base 2 "parts_of" (spD K (p_parts_of K)) []) (c_power_of : Cal P w K mg base 3 "power_of" (spD K p_power_of) []) (c_multiplied : Cal P w K mg base 2 "multiplied" (spD K p_multiplied) []) (F : FunD K "tops_over" "tops_over" (defArgs s_tops_over) (defBody s_tops_over) (defScope s_tops_over) [] [] f fd) : FnOk P w K mg base CX0 4 f fd ["function"] (spD K (p_tops_over K)) := by
  refine F.ok sc_tops_over (spD_len (n := 1) ?_) (fun cdv A outer s H vs Q E hr h => ⟨_, PSs.nox ((pss_cons (ps_asg (pe_c c_parts_of hr (by decide) rfl (pa_cons (pv 0) pa_nil)) (pgt (n := 5) K rfl (pgs_cons (pg_name (i := 1) sc_tops_over.nd rfl (by first | exact Or.inl rfl | exact Or.inr rfl)) (pgs_cons (pg_name (i := 2) sc_tops_over.nd rfl (by first | exact Or.inl rfl | exact Or.inr rfl)) (pgs_cons (pg_name (i := 3) sc_tops_over.nd rfl (by first | exact Or.inl rfl | exact Or.inr rfl)) (pgs_cons (pg_name (i := 4) sc_tops_over.nd rfl (by first | exact Or.inl rfl | exact Or.inr rfl)) (pgs_cons (pg_name (i := 5) sc_tops_over.nd rfl (by first | exact Or.inl rfl | exact Or.inr rfl)) pgs_nil)))))))
      (pss_cons (ps_set (i := 6) sc_tops_over.nd rfl (by first | exact Or.inl rfl | exact Or.inr rfl) (pe_c c_power_of hr (by decide) rfl (pa_cons (pv 1) (pa_cons (pv 5) (pa_cons (pe_op op_sub (pv 1) pe_int) pa_nil)))))
      (pss_one (ps_ret (pe_tup (pa_cons (pe_c c_multiplied hr (by decide) rfl (pa_cons (pv 1) (pa_cons (pv 3) (pa_cons (pv 6) pa_nil)))) (pa_cons (pe_c c_multiplied hr (by decide) rfl (pa_cons (pv 1) (pa_cons (pe_c c_multiplied hr (by decide) rfl (pa_cons (pv 1) (pa_cons (pv 4) (pa_cons (pv 6) pa_nil)))) (pa_cons (pe_c c_power_of hr (by decide) rfl (pa_cons (pv 1) (pa_cons (pv 2) (pa_cons (pe_op op_fdiv (pe_op op_add (pv 1) pe_int) pe_int) pa_nil)))) pa_nil)))) pa_nil)))))))), run_def (N := nm_tops_over) (fun ds d p => ?_) vs H Q E h⟩)
  · rintro ds d ⟨_, _, rfl, _⟩; rfl
  ·
    obtain ⟨c, T, rfl, ⟨cv, hT⟩, rfl⟩ := p
    have hLM : LM = 1000000 := rfl
    have hp := cv.pos
    have hpl := cv.pm.le
    have hpg := cv.pm.ge
    have a1 := hT.sz
    have a3 := cv.len
    have l1 := ppow_len (p := c.1) (a := T.2.2) (n := (c.1 - 1).toNat)
    have k1 : (c.1 - 1).toNat * T.2.2.length ≤ 12 * 3000 := Nat.mul_le_mul (by omega) a1.2.2
    have l2 := ppow_len (p := c.1) (a := c.2) (n := ((c.1 + 1) / 2).toNat)
    have k2 : ((c.1 + 1) / 2).toNat * c.2.length ≤ 7 * 8 := Nat.mul_le_mul (by omega) a3
    have l3 := pmul_len (p := c.1) (a := T.2.1) (b := ppow c.1 T.2.2 (c.1 - 1).toNat)
    show StD K _ [.val (fnD K c T), .un, .un, .un, .un, .un, .un] _
    refine st_seq (st_unp5 (ev_call (ea1 (ev_var rfl)) ⟨c, T, rfl, trivial, rfl⟩)) ?_
    refine st_seq (st_set (ev_call (ea3 (ev_var rfl) (ev_var rfl) (ev_sub (ev_var rfl) ev_int)) ⟨c.1, T.2.2, c.1 - 1, rfl, hp, hpl, by omega, by omega, Nat.le_trans k1 (by decide), by omega, rfl⟩)) ?_
    exact st_ret (ev_tup (ea2 (ev_call (ea3 (ev_var rfl) (ev_var rfl) (ev_var rfl)) ⟨c.1, T.1, _, rfl, hp, by omega, by omega, hT.ls.n1.sm hpl, rfl⟩) (ev_call (ea3 (ev_var rfl) (ev_call (ea3 (ev_var rfl) (ev_var rfl) (ev_var rfl)) ⟨c.1, T.2.1, _, rfl, hp, by omega, by omega, hT.ls.n2.sm hpl, rfl⟩) (ev_call (ea3 (ev_var rfl) (ev_var rfl) (ev_fdiv (by unfold CDiv; omega) (ev_add (ev_var rfl) ev_int) ev_int)) ⟨c.1, c.2, (c.1 + 1) / 2, rfl, hp, hpl, by omega, by omega, Nat.le_trans k2 (by decide), by omega, rfl⟩)) ⟨c.1, _, _, rfl, hp, by omega, by omega, (trim_nrm hp _).sm hpl, rfl⟩)) (by show 2 ≤ sizeLine; decide))
abbrev s_parts_by : Stmt := top 40
abbrev nm_parts_by : List Str := ["function", "p", "f", "_", "bottom", "low", "high", "below", "found", "first", "tops"]
theorem sc_parts_by : FnScope nm_parts_by ["function"] (defScope s_parts_by) := ⟨rfl, rfl, rfl, by decide +kernel, rfl, by decide +kernel, by decide +kernel⟩
theorem ok_parts_by (fx : Fx K mg) (c_parts_of : Cal P w K mg base 2 "parts_of" (spD K (p_parts_of K)) []) (c_tops_over : Cal P w K mg base 4 "tops_over" (spD K (p_tops_over K)) []) (c_multiplied : Cal P w K mg base 2 "multiplied" (spD K p_multiplied) []) (c_every : Cal P w K mg base 2 "every" (spD K p_every) []) (c_made : Cal P w K mg base 9 "made" (spD K (p_made K)) []) (m_Function_curve : Met P w K mg base 1 (He.ga K "Function") "curve" (spD K (p_Function_curve K)) []) (F : FunD K "parts_by" "parts_by" (defArgs s_parts_by) (defBody s_parts_by) (defScope s_parts_by) [] [] f fd) : FnOk P w K mg base CX0 10 f fd ["function"] (spD K (p_parts_by K)) := by
  refine F.ok sc_parts_by (spD_len (n := 1) ?_) (fun cdv A outer s H vs Q E hr h => ⟨_, PSs.nox ((pss_cons (ps_asg (pe_c c_parts_of hr (by decide) rfl (pa_cons (pv 0) pa_nil)) (pgt (n := 5) K rfl (pgs_cons (pg_name (i := 1) sc_parts_by.nd rfl (by first | exact Or.inl rfl | exact Or.inr rfl)) (pgs_cons (pg_name (i := 2) sc_parts_by.nd rfl (by first | exact Or.inl rfl | exact Or.inr rfl)) (pgs_cons (pg_name (i := 3) sc_parts_by.nd rfl (by first | exact Or.inl rfl | exact Or.inr rfl)) (pgs_cons (pg_name (i := 3) sc_parts_by.nd rfl (by first | exact Or.inl rfl | exact Or.inr rfl)) (pgs_cons (pg_name (i := 4) sc_parts_by.nd rfl (by first | exact Or.inl rfl | exact Or.inr rfl)) pgs_nil)))))))
      (pss_cons (ps_asg (pe_c c_tops_over hr (by decide) rfl (pa_cons (pv 0) pa_nil)) (pgt (n := 2) K rfl (pgs_cons (pg_name (i := 5) sc_parts_by.nd rfl (by first | exact Or.inl rfl | exact Or.inr rfl)) (pgs_cons (pg_name (i := 6) sc_parts_by.nd rfl (by first | exact Or.inl rfl | exact Or.inr rfl)) pgs_nil))))
      (pss_cons (ps_set (i := 7) sc_parts_by.nd rfl (by first | exact Or.inl rfl | exact Or.inr rfl) (pe_c c_multiplied hr (by decide) rfl (pa_cons (pv 1) (pa_cons (pv 4) (pa_cons (pv 2) pa_nil)))))
      (pss_cons (ps_set (i := 8) sc_parts_by.nd rfl (by first | exact Or.inl rfl | exact Or.inr rfl) (pe_lst pa_nil))
      (pss_cons (ps_for PassesOwn.never rfl (pi_range1 (by rfl) fx.b_range (pa_cons (pv 1) pa_nil)) (pg_name (i := 9) sc_parts_by.nd rfl (by first | exact Or.inl rfl | exact Or.inr rfl))
      (pss_cons (ps_set (i := 10) sc_parts_by.nd rfl (by first | exact Or.inl rfl | exact Or.inr rfl) (pe_c c_multiplied hr (by decide) rfl (pa_cons (pv 1) (pa_cons (pe_c c_every hr (by decide) rfl (pa_cons (pv 1) (pa_cons (pv 5) (pa_cons (pv 9) pa_nil)))) (pa_cons (pv 2) pa_nil)))))
      (pss_one (ps_expr (pe_bm PySem.F.plainAttrs_list PySem.F.slot_list_append PySem.F.type_list_append mt_append (pv 8) (pa_cons (pe_c c_made hr (by decide) rfl (pa_cons (pe_mt0 m_Function_curve hr (by decide) (pv 0)) (pa_cons (pv 10) (pa_cons (pe_c c_every hr (by decide) rfl (pa_cons (pv 1) (pa_cons (pv 6) (pa_cons (pv 9) pa_nil)))) (pa_cons (pv 7) pa_nil))))) pa_nil))))))
      (pss_one (ps_ret (pv 8))))))))), run_def (N := nm_parts_by) (fun ds d p => ?_) vs H Q E h⟩)
  · rintro ds d ⟨_, _, rfl, _⟩; rfl
  ·
    obtain ⟨c, T, rfl, ⟨cv, hT⟩, rfl⟩ := p
    have hLM : LM = 1000000 := rfl
    have hp := cv.pos
    have hpl := cv.pm.le
    have hpg := cv.pm.ge
    have a1 := hT.sz
    have a3 := cv.len
    have h1 := fLow_len cv hT
    have h2 := fHigh_len cv hT
    have l3 := pmul_len (p := c.1) (a := T.2.2) (b := c.2)
    show StD K _ [.val (fnD K c T), .un, .un, .un, .un, .un, .un, .un, .un, .un, .un] _
    refine st_seq (st_unp5 (ev_call (ea1 (ev_var rfl)) ⟨c, T, rfl, trivial, rfl⟩)) ?_
    refine st_seq (st_unp2 (ev_call (ea1 (ev_var rfl)) ⟨c, T, rfl, ⟨cv, hT⟩, rfl⟩)) ?_
    refine st_seq (st_set (ev_call (ea3 (ev_var rfl) (ev_var rfl) (ev_var rfl)) ⟨c.1, T.2.2, c.2, rfl, hp, by omega, by omega, hT.ls.n3.sm hpl, rfl⟩)) ?_
    refine st_seq (st_setN en_lst0) ?_
    refine st_seq (G1 := [.val (fnD K c T), .val (.int c.1), .val (inD c.2), .val (inD T.2.1), .val (inD T.2.2), .val (inD (fLow c T)), .val (inD (fHigh c T)), .val (inD (pmul c.1 T.2.2 c.2)), .own ((fParts c T).map (fnD K c)), .un, .un]) ?_ (st_retO rfl)
    refine StD.nxc (st_for (K := K) (S := List Tri) (as := rangeI 0 c.1.toNat) (enc := D.int) (Gs := fun l => [.val (fnD K c T), .val (.int c.1), .val (inD c.2), .val (inD T.2.1), .val (inD T.2.2), .val (inD (fLow c T)), .val (inD (fHigh c T)), .val (inD (pmul c.1 T.2.2 c.2)), .own (l.map (fnD K c)), .un, .un]) (step := fun l i => l ++ [fPart c T i]) (s0 := []) (it_rng1 (n := c.1) (by omega) (ev_var (i := 1) rfl)) fun pre x post e => ⟨_, _, tg_name, ?_⟩) (by rw [foldl_snoc]; rfl)
    · have hx := rangeI_mem (mem_mid e)
      have hl : (pre.foldl (fun l i => l ++ [fPart c T i]) ([] : List Tri)).length ≤ LM := by
        rw [foldl_snoc]
        have := congrArg List.length e
        rw [rangeI_len, List.length_append] at this
        simp
        omega
      have e1 := pEvery_len (l := fLow c T) (i := x) hp
      have e2 := pEvery_len (l := fHigh c T) (i := x) hp
      have l4 := pmul_len (p := c.1) (a := pEvery c.1 (fLow c T) x) (b := c.2)
      generalize pre.foldl (fun l i => l ++ [fPart c T i]) ([] : List Tri) = acc at hl ⊢
      refine StD.lp (st_seq (st_set (ev_call (ea3 (ev_var rfl) (ev_call (ea3 (ev_var rfl) (ev_var rfl) (ev_var rfl)) ⟨c.1, _, x, rfl, ⟨hp, by omega⟩, rfl⟩) (ev_var rfl)) ⟨c.1, _, c.2, rfl, hp, by omega, by omega, (trim_nrm hp _).sm hpl, rfl⟩)) ?_)
      exact StD.weak (st_appT (l := acc) (x := fPart c T x) rfl hl (ev_call (ea4 (ev_meth (C := He.ga K "Function") (by decide +kernel) (ev_var rfl) ea_nil ⟨c, T, rfl, trivial, rfl⟩) (ev_var rfl) (ev_call (ea3 (ev_var rfl) (ev_var rfl) (ev_var rfl)) ⟨c.1, _, x, rfl, ⟨hp, by omega⟩, rfl⟩) (ev_var rfl)) ⟨c, _, _, _, rfl, ⟨cv, trim_nrm hp _, trim_nrm hp _, trim_nrm hp _, pmul_ne cv.pm hT.ls.n3 cv.nr hT.ls.ne cv.ne, by omega, by omega, by omega⟩, rfl⟩)) (.eq (.eq (.eq (.eq (.eq (.eq (.eq (.eq (.eq (.un (.un .nil)))))))))))
abbrev s_descent_by : Stmt := top 42
abbrev nm_descent_by : List Str := ["function"]
theorem sc_descent_by : FnScope nm_descent_by ["function"] (defScope s_descent_by) := ⟨rfl, rfl, rfl, by decide +kernel, rfl, by decide +kernel, by decide +kernel⟩
theorem ok_descent_by (fx : Fx K mg) (c_parts_by : Cal P w K mg base 10 "parts_by" (spD K (p_parts_by K)) []) (F : FunD K "descent_by" "descent_by" (defArgs s_descent_by) (defBody s_descent_by) (defScope s_descent_by) [] [] f fd) : FnOk P w K mg base CX0 11 f fd ["function"] (spD K (p_descent_by K)) := by
  refine F.ok sc_descent_by (spD_len (n := 1) ?_) (fun cdv A outer s H vs Q E hr h => ⟨_, PSs.nox ((pss_one (ps_ret (pe_ix (ixl K) (pe_c c_parts_by hr (by decide) rfl (pa_cons (pv 0) pa_nil)) (pe_un un_neg pe_int) (fun _ _ => rfl))))), run_def (N := nm_descent_by) (fun ds d p => ?_) vs H Q E h⟩)
  · rintro ds d ⟨_, _, rfl, _⟩; rfl
  ·
    obtain ⟨c, T, rfl, ⟨cv, hT⟩, rfl⟩ := p
    show StD K _ [.val (fnD K c T)] _
    exact st_ret (ev_ixL (d := fnD K c (fLast c T)) (parts_last cv.pos) (ev_call (ea1 (ev_var rfl)) ⟨c, T, rfl, ⟨cv, hT⟩, rfl⟩) ev_m1)
abbrev s_descent : Stmt := top 47
abbrev nm_descent : List Str := ["one"]
theorem sc_descent : FnScope nm_descent ["one"] (defScope s_descent) := ⟨rfl, rfl, rfl, by decide +kernel, rfl, by decide +kernel, by decide +kernel⟩
theorem ok_descent (fx : Fx K mg) (c_check_function : Cal P w K mg base 1 "check_function" (spD K (p_check_function K)) []) (c_descent_by : Cal P w K mg base 11 "descent_by" (spD K (p_descent_by K)) []) (F : FunD K "descent" "descent" (defArgs s_descent) (defBody s_descent) (defScope s_descent) [] [] f fd) : FnOk P w K mg base CX0 12 f fd ["one"] (spD K (p_descent K)) := by
  refine F.ok sc_descent (spD_len (n := 1) ?_) (fun cdv A outer s H vs Q E hr h => ⟨_, PSs.nox ((pss_cons (ps_expr (pe_c c_check_function hr (by decide) rfl (pa_cons (pv 0) pa_nil)))
      (pss_one (ps_ret (pe_c c_descent_by hr (by decide) rfl (pa_cons (pv 0) pa_nil)))))), run_def (N := nm_descent) (fun ds d p => ?_) vs H Q E h⟩)
  · rintro ds d ⟨_, _, rfl, _⟩; rfl
  ·
    obtain ⟨c, T, rfl, h, rfl⟩ := p
    show StD K _ [.val (fnD K c T)] _
    refine st_seq (st_drop (ev_call (ea1 (ev_var rfl)) ⟨c, T, rfl, trivial, rfl⟩)) ?_
    exact st_ret (ev_call (ea1 (ev_var rfl)) ⟨c, T, rfl, h, rfl⟩)
end
end Cw
set_option maxHeartbeats 4000000
namespace Cw
open PySem PySem.Spec PyProof.Rows L2
open C8 (Cal Met Mak pe_c pe_mk pe_mt pe_mt0 pe_gc InsC call_isC)
section
variable {P : Program} {w : World} {K : Fg} {mg : Str → Option Value} {base : Heap} {f : Addr} {fd : FuncData}
abbrev s__law_hash : Stmt := top 51
abbrev nm__law_hash : List Str := ["seed", "index", "mixed"]
theorem sc__law_hash : FnScope nm__law_hash ["seed", "index"] (defScope s__law_hash) := ⟨rfl, rfl, rfl, by decide +kernel, rfl, by decide +kernel, by decide +kernel⟩
theorem ok__law_hash (fx : Fx K mg) (F : FunD K "_law_hash" "_law_hash" (defArgs s__law_hash) (defBody s__law_hash) (defScope s__law_hash) [] [] f fd) : FnOk P w K mg base CX0 1 f fd ["seed", "index"] (spD K p__law_hash) := by
  refine F.ok sc__law_hash (spD_len (n := 2) ?_) (fun cdv A outer s H vs Q E hr h => ⟨_, PSs.nox ((pss_cons (ps_set (i := 2) sc__law_hash.nd rfl (by first | exact Or.inl rfl | exact Or.inr rfl) (pe_op op_mod (pe_callTy call_int1 (by rfl) fx.b_int (by decide +kernel) (pa_cons (pe_op op_add (pe_op op_add (pe_op op_add (pe_op op_mul (pv 0) pe_int) (pe_op op_mul (pe_op op_mul pe_int (pv 1)) (pv 1))) (pe_op op_mul pe_int (pv 1))) pe_int) pa_nil)) pe_int))
      (pss_cons (ps_set (i := 2) sc__law_hash.nd rfl (by first | exact Or.inl rfl | exact Or.inr rfl) (pe_op op_mod (pe_callTy call_int1 (by rfl) fx.b_int (by decide +kernel) (pa_cons (pe_op op_add (pe_op op_add (pe_op op_mul (pv 2) (pv 2)) (pe_op op_mul pe_int (pv 1))) pe_int) pa_nil)) pe_int))
      (pss_one (ps_ret (pe_op op_mod (pe_callTy call_int1 (by rfl) fx.b_int (by decide +kernel) (pa_cons (pe_op op_mul (pv 2) pe_int) pa_nil)) pe_int)))))), run_def (N := nm__law_hash) (fun ds d p => ?_) vs H Q E h⟩)
  · rintro ds d ⟨_, _, rfl, _⟩; rfl
  ·
    obtain ⟨s, i, rfl, ⟨h1, h2, h3, h4⟩, rfl⟩ := p
    show StD K _ [.val (.int s), .val (.int i), .un] _
    refine st_seq (st_set (ev_mod (by decide) (ev_intc (ev_add (ev_add (ev_add (ev_mulS (.inr (by decide)) (ev_var rfl) ev_int) (ev_mulS (.inr (by omega)) (ev_mulS (.inl (by decide)) ev_int (ev_var rfl)) (ev_var rfl))) (ev_mulS (.inl (by decide)) ev_int (ev_var rfl))) ev_int)) ev_int)) ?_
    generalize hm : (s * 1140671 + 27644437 * i * i + 131 * i + 19) % 2147483629 = m
    have m0 : 0 ≤ m := by rw [← hm]; exact Int.emod_nonneg _ (by decide)
    have m1 : m < 2147483629 := by rw [← hm]; exact Int.emod_lt_of_pos _ (by decide)
    refine st_seq (st_set (ev_mod (by decide) (ev_intc (ev_add (ev_add (ev_mulS (.inl (by omega)) (ev_var rfl) (ev_var rfl)) (ev_mulS (.inl (by decide)) ev_int (ev_var rfl))) ev_int)) ev_int)) ?_
    exact st_ret ((ev_mod (by decide) (ev_intc (ev_mulS (.inr (by decide)) (ev_var rfl) ev_int)) ev_int).cast (by unfold lawHash; rw [hm]))
abbrev s__law_cell : Stmt := top 53
abbrev nm__law_cell : List Str := ["script", "index"]
theorem sc__law_cell : FnScope nm__law_cell ["script", "index"] (defScope s__law_cell) := ⟨rfl, rfl, rfl, by decide +kernel, rfl, by decide +kernel, by decide +kernel⟩
theorem ok__law_cell (fx : Fx K mg) (F : FunD K "_law_cell" "_law_cell" (defArgs s__law_cell) (defBody s__law_cell) (defScope s__law_cell) [] [] f fd) : FnOk P w K mg base CX0 1 f fd ["script", "index"] (spD K p__law_cell) := by
  refine F.ok sc__law_cell (spD_len (n := 2) ?_) (fun cdv A outer s H vs Q E hr h => ⟨_, PSs.nox ((pss_cons (ps_if (pt_cmpR op_lt (pv 1) (pe_callB (lenS K) (by rfl) fx.b_len (by decide +kernel) (pa_cons (pv 0) pa_nil)) (nomark _)) (pss_one (ps_ret (pe_ix (ixl K) (pv 0) (pv 1) (fun _ _ => rfl)))) pss_nil)
      (pss_one (ps_ret (pe_op op_mod (pe_callB (sumS K rfl) (by rfl) fx.b_sum (by decide +kernel) (pa_cons (pe_slice (sll K) (pv 0) po_none (po_some pe_int)) pa_nil)) pe_int))))), run_def (N := nm__law_cell) (fun ds d p => ?_) vs H Q E h⟩)
  · rintro ds d ⟨_, _, rfl, _⟩; rfl
  ·
    obtain ⟨ns, i, rfl, rfl, rfl⟩ := p
    show StD K _ [.val (.scr ns), .val (.int 0)] _
    by_cases hn : ns = []
    · subst hn
      refine st_ifS (x := false) ((eb_test (ev_lt (ev_var rfl) (ev_lenS (ev_var rfl)))).cast (by simp)) (fun h => nomatch h) fun _ => st_seqN ?_
      exact st_ret ((ev_mod (by decide) (ev_cb (ea1 (ev_pub ((en_sliceS (ev_var rfl) eo_no (eo_some ev_int)).cast (es := ([] : List Int).map D.int) rfl))) oa_sum) ev_int).cast rfl)
    · refine st_ifS (x := true) ((eb_test (ev_lt (ev_var rfl) (ev_lenS (ev_var rfl)))).cast (by have := List.length_pos_iff.mpr hn; simp; omega)) (fun _ => st_seqR (st_ret ((ev_ixS (by decide) (by have := List.length_pos_iff.mpr hn; omega) (ev_var rfl) (ev_var rfl)).cast ?_))) (fun h => nomatch h)
      cases ns with
      | nil => exact absurd rfl hn
      | cons x r => rfl
abbrev s__law_trim : Stmt := top 55
abbrev nm__law_trim : List Str := ["p", "row", "found", "turn", "number"]
theorem sc__law_trim : FnScope nm__law_trim ["p", "row"] (defScope s__law_trim) := ⟨rfl, rfl, rfl, by decide +kernel, rfl, by decide +kernel, by decide +kernel⟩
theorem ok__law_trim (fx : Fx K mg) (F : FunD K "_law_trim" "_law_trim" (defArgs s__law_trim) (defBody s__law_trim) (defScope s__law_trim) [] [] f fd) : FnOk P w K mg base CX0 1 f fd ["p", "row"] (spD K p__law_trim) := by
  refine F.ok sc__law_trim (spD_len (n := 2) ?_) (fun cdv A outer s H vs Q E hr h => ⟨_, PSs.nox ((pss_cons (ps_setLc (i := 2) (own := [("number", 4)]) rfl sc__law_trim.nd rfl rfl (sw_true rfl rfl rfl (by decide +kernel)) (pil K (pv 1)) (blkOk_by (N := nm__law_trim) (sc := defScope s__law_trim) (by decide +kernel)) (fun _ _ _ _ _ => (pg_name (i := 4) sc__law_trim.nd rfl (by first | exact Or.inl rfl | exact Or.inr rfl))) (fun _ _ _ _ _ => pts_nil) (fun _ _ _ _ _ => (pe_op op_mod (pe_callTy call_int1 (by rfl) fx.b_int (by decide +kernel) (pa_cons (pv 4) pa_nil)) (pv 0))))
      (pss_cons (ps_for PassesOwn.never rfl (pi_range1 (by rfl) fx.b_range (pa_cons (pe_callB (lenS K) (by rfl) fx.b_len (by decide +kernel) (pa_cons (pv 1) pa_nil)) pa_nil)) (pg_name (i := 3) sc__law_trim.nd rfl (by first | exact Or.inl rfl | exact Or.inr rfl))
      (pss_one (ps_if (PW.pt (pw_and (pt_cmpR (opNe K hr.units) (pv 2) (pe_lst pa_nil) (nomark _)) (pw_and1 (pt_cmpR op_eq (pe_ix (ixl K) (pv 2) (pe_un un_neg pe_int) (fun _ _ => rfl)) pe_int (nomark _))))) (pss_one (ps_set (i := 2) sc__law_trim.nd rfl (by first | exact Or.inl rfl | exact Or.inr rfl) (pe_slice (sll K) (pv 2) po_none (po_some (pe_un un_neg pe_int))))) pss_nil)))
      (pss_one (ps_ret (pv 2)))))), run_def (N := nm__law_trim) (fun ds d p => ?_) vs H Q E h⟩)
  · rintro ds d ⟨_, _, rfl, _⟩; rfl
  ·
    obtain ⟨p, ns, rfl, hp, hl, rfl⟩ := p
    have hLM : LM = 1000000 := rfl
    show StD K _ [.val (.int p), .val (inD ns), .un, .un, .un] _
    refine st_seq (st_setN (en_lcT D.int (fun x => x % p) (Nat.le_trans hl (by decide)) (it_list (ev_var rfl)) fun pre x post e => ⟨_, _, tg_name, fun _ h => h, ev_mod hp (ev_intc (ev_var rfl)) (ev_var rfl)⟩)) ?_
    refine st_pub (i := 2) rfl ?_
    show StD K _ [.val (.int p), .val (inD ns), .val (inD (ns.map (· % p))), .un, .un] _
    refine st_seq (st_for (S := List Int) (as := rangeI 0 ns.length) (enc := D.int) (Gs := fun l => [.val (.int p), .val (inD ns), .val (inD l), .un, .un]) (step := fun l _ => if !decide (l = []) && decide (lastI l = 0) then l.dropLast else l) (it_rng1 (n := ns.length) (by omega) (ev_lenL (ev_var (i := 1) rfl).h)) fun pre x post e => ⟨_, _, tg_name, ?_⟩) ?_
    · generalize pre.foldl (fun (l : List Int) (_ : Int) => if !decide (l = []) && decide (lastI l = 0) then l.dropLast else l) (ns.map (· % p)) = l
      refine StD.lp (StD.weak (G1 := [.val (.int p), .val (inD ns), .val (inD (if !decide (l = []) && decide (lastI l = 0) then l.dropLast else l)), .val (.int x), .un]) (st_if (eb_and (eb_test (ev_ne0 (ev_var rfl).h)) fun h => eb_test (ev_eqI (ev_ixN (by simpa using h) (ev_var rfl) ev_m1) ev_int)) (fun z => ?_) fun z => ?_) (.eq (.eq (.eq (.un (.un .nil))))))
      · rw [if_pos z]
        exact st_set (ev_pub ((en_slice (ev_var rfl) eo_no (eo_some ev_m1)).cast (cut_last _)))
      · rw [if_neg (by rw [z]; decide)]
        exact st_nil
    · rw [drop_fold _ _ (by simp [rangeI_len])]
      exact st_ret (ev_var rfl)
abbrev s__law_add : Stmt := top 56
abbrev nm__law_add : List Str := ["p", "one", "other", "many", "low", "high", "at"]
theorem sc__law_add : FnScope nm__law_add ["p", "one", "other"] (defScope s__law_add) := ⟨rfl, rfl, rfl, by decide +kernel, rfl, by decide +kernel, by decide +kernel⟩
theorem ok__law_add (fx : Fx K mg) (c__law_trim : Cal P w K mg base 1 "_law_trim" (spD K p__law_trim) []) (F : FunD K "_law_add" "_law_add" (defArgs s__law_add) (defBody s__law_add) (defScope s__law_add) [] [] f fd) : FnOk P w K mg base CX0 2 f fd ["p", "one", "other"] (spD K p__law_add) := by
  refine F.ok sc__law_add (spD_len (n := 3) ?_) (fun cdv A outer s H vs Q E hr h => ⟨_, PSs.nox ((pss_cons (ps_set (i := 3) sc__law_add.nd rfl (by first | exact Or.inl rfl | exact Or.inr rfl) (pe_callB (call_max2 rfl) (by rfl) fx.b_max (by decide +kernel) (pa_cons (pe_callB (lenS K) (by rfl) fx.b_len (by decide +kernel) (pa_cons (pv 1) pa_nil)) (pa_cons (pe_callB (lenS K) (by rfl) fx.b_len (by decide +kernel) (pa_cons (pv 2) pa_nil)) pa_nil))))
      (pss_cons (ps_asg (pe_tup (pa_cons (pe_op op_cat (pv 1) (pe_op op_rep (pe_lst (pa_cons pe_int pa_nil)) (pe_op op_sub (pv 3) (pe_callB (lenS K) (by rfl) fx.b_len (by decide +kernel) (pa_cons (pv 1) pa_nil))))) (pa_cons (pe_op op_cat (pv 2) (pe_op op_rep (pe_lst (pa_cons pe_int pa_nil)) (pe_op op_sub (pv 3) (pe_callB (lenS K) (by rfl) fx.b_len (by decide +kernel) (pa_cons (pv 2) pa_nil))))) pa_nil))) (pgt (n := 2) K rfl (pgs_cons (pg_name (i := 4) sc__law_add.nd rfl (by first | exact Or.inl rfl | exact Or.inr rfl)) (pgs_cons (pg_name (i := 5) sc__law_add.nd rfl (by first | exact Or.inl rfl | exact Or.inr rfl)) pgs_nil))))
      (pss_one (ps_ret (pe_c c__law_trim hr (by decide) rfl (pa_cons (pv 0) (pa_cons (pe_lc (own := [("at", 6)]) rfl sc__law_add.nd (pi_range1 (by rfl) fx.b_range (pa_cons (pv 3) pa_nil)) (blkOk_by (N := nm__law_add) (sc := defScope s__law_add) (by decide +kernel)) (fun _ _ _ _ _ => (pg_name (i := 6) sc__law_add.nd rfl (by first | exact Or.inl rfl | exact Or.inr rfl))) (fun _ _ _ _ _ => pts_nil) (fun _ _ _ _ _ => (pe_op op_add (pe_ix (ixl K) (pv 4) (pv 6) (fun _ _ => rfl)) (pe_ix (ixl K) (pv 5) (pv 6) (fun _ _ => rfl))))) pa_nil)))))))), run_def (N := nm__law_add) (fun ds d p => ?_) vs H Q E h⟩)
  · rintro ds d ⟨_, _, _, rfl, _⟩; rfl
  ·
    obtain ⟨p, a, b, rfl, hp, ha, hb, rfl⟩ := p
    have hLM : LM = 1000000 := rfl
    show StD K _ [.val (.int p), .val (inD a), .val (inD b), .un, .un, .un, .un] _
    refine st_seq (st_set (ev_max (ev_lenL (ev_var rfl).h) (ev_lenL (ev_var rfl).h))) ?_
    have pad : ∀ (l : List Int), l.length ≤ LM → l.length ≤ max a.length b.length → (l ++ List.replicate (max (a.length : Int) b.length - l.length).toNat 0).length = max a.length b.length := fun l _ h => by
      rw [List.length_append, List.length_replicate]; omega
    have cfp : ∀ (l : List Int) (n i : Nat), cf (l ++ List.replicate n 0) i = cf l i := fun l n i => by
      rw [cf_app]; split
      · rfl
      · rw [cf_rep, cf_out (by omega)]
    refine st_seq (st_parT (em_v (ev_pub (en_catT (by rw [List.length_replicate]; omega) (ev_var rfl) (ev_pub (en_repT (by omega) (ev_pub (en_lst1 ev_int)) (ev_sub (ev_var rfl) (ev_lenL (ev_var rfl).h))))))) (em_v (ev_pub (en_catT (by rw [List.length_replicate]; omega) (ev_var rfl) (ev_pub (en_repT (by omega) (ev_pub (en_lst1 ev_int)) (ev_sub (ev_var rfl) (ev_lenL (ev_var rfl).h))))))) (fun h => nomatch h) (fun h => nomatch h)) ?_
    have pa := pad a ha (by omega)
    have pb := pad b hb (by omega)
    refine st_ret (ev_call (ea2 (ev_var rfl) (ev_pub (en_lcT D.int (fun k : Int => cf a k.toNat + cf b k.toNat) (by rw [rangeI_len]; exact LMs (by omega)) (it_rng1 (n := max (a.length : Int) b.length) (by omega) (ev_var rfl)) fun pre x post e => ⟨_, _, tg_name, fun _ h => h, (ev_add (ev_ixI (by have := rangeI_mem (mem_mid e); omega) (by have := rangeI_mem (mem_mid e); rw [pa]; omega) (ev_var rfl) (ev_var rfl)) (ev_ixI (by have := rangeI_mem (mem_mid e); omega) (by have := rangeI_mem (mem_mid e); rw [pb]; omega) (ev_var rfl) (ev_var rfl))).cast (by rw [cfp, cfp])⟩))) ⟨_, _, rfl, hp, by rw [List.length_map, rangeI_len]; omega, ?_⟩)
    unfold padd mk
    rw [rangeI_map, show (max (a.length : Int) b.length).toNat = max a.length b.length by omega]
    rfl
abbrev s__law_scale : Stmt := top 57
abbrev nm__law_scale : List Str := ["p", "one", "number", "item"]
theorem sc__law_scale : FnScope nm__law_scale ["p", "one", "number"] (defScope s__law_scale) := ⟨rfl, rfl, rfl, by decide +kernel, rfl, by decide +kernel, by decide +kernel⟩
theorem ok__law_scale (fx : Fx K mg) (c__law_trim : Cal P w K mg base 1 "_law_trim" (spD K p__law_trim) []) (F : FunD K "_law_scale" "_law_scale" (defArgs s__law_scale) (defBody s__law_scale) (defScope s__law_scale) [] [] f fd) : FnOk P w K mg base CX0 2 f fd ["p", "one", "number"] (spD K p__law_scale) := by
  refine F.ok sc__law_scale (spD_len (n := 3) ?_) (fun cdv A outer s H vs Q E hr h => ⟨_, PSs.nox ((pss_one (ps_ret (pe_c c__law_trim hr (by decide) rfl (pa_cons (pv 0) (pa_cons (pe_lc (own := [("item", 3)]) rfl sc__law_scale.nd (pil K (pv 1)) (blkOk_by (N := nm__law_scale) (sc := defScope s__law_scale) (by decide +kernel)) (fun _ _ _ _ _ => (pg_name (i := 3) sc__law_scale.nd rfl (by first | exact Or.inl rfl | exact Or.inr rfl))) (fun _ _ _ _ _ => pts_nil) (fun _ _ _ _ _ => (pe_op op_mul (pv 2) (pv 3)))) pa_nil)))))), run_def (N := nm__law_scale) (fun ds d p => ?_) vs H Q E h⟩)
  · rintro ds d ⟨_, _, _, rfl, _⟩; rfl
  ·
    obtain ⟨p, a, n, rfl, hp, hl, hn, rfl⟩ := p
    show StD K _ [.val (.int p), .val (inD a), .val (.int n), .un] _
    exact st_ret (ev_call (ea2 (ev_var rfl) (ev_pub (en_lcT D.int (fun x => x * n) (LMs (by omega)) (it_list (ev_var rfl)) fun _ x _ _ => ⟨_, _, tg_name, fun _ h => h, (ev_mulS (i := n) (j := x) (.inl hn) (ev_var rfl) (ev_var rfl)).cast (by rw [Int.mul_comm])⟩))) ⟨_, _, rfl, hp, by rw [List.length_map]; omega, rfl⟩)
abbrev s__law_mul : Stmt := top 58
abbrev nm__law_mul : List Str := ["p", "one", "other", "found", "at", "low", "place", "high"]
theorem sc__law_mul : FnScope nm__law_mul ["p", "one", "other"] (defScope s__law_mul) := ⟨rfl, rfl, rfl, by decide +kernel, rfl, by decide +kernel, by decide +kernel⟩
theorem ok__law_mul (fx : Fx K mg) (c__law_trim : Cal P w K mg base 1 "_law_trim" (spD K p__law_trim) []) (F : FunD K "_law_mul" "_law_mul" (defArgs s__law_mul) (defBody s__law_mul) (defScope s__law_mul) [] [] f fd) : FnOk P w K mg base CX0 2 f fd ["p", "one", "other"] (spD K p__law_mul) := by
  refine F.ok sc__law_mul (spD_len (n := 3) ?_) (fun cdv A outer s H vs Q E hr h => ⟨_, PSs.nox ((pss_cons (ps_set (i := 3) sc__law_mul.nd rfl (by first | exact Or.inl rfl | exact Or.inr rfl) (pe_op op_rep (pe_lst (pa_cons pe_int pa_nil)) (pe_callB (call_max2 rfl) (by rfl) fx.b_max (by decide +kernel) (pa_cons (pe_op op_sub (pe_op op_add (pe_callB (lenS K) (by rfl) fx.b_len (by decide +kernel) (pa_cons (pv 1) pa_nil)) (pe_callB (lenS K) (by rfl) fx.b_len (by decide +kernel) (pa_cons (pv 2) pa_nil))) pe_int) (pa_cons pe_int pa_nil)))))
      (pss_cons (ps_for PassesOwn.never rfl (pien K (by rfl) fx.b_enumerate (pa_cons (pv 1) pa_nil)) (pgt (n := 2) K rfl (pgs_cons (pg_name (i := 4) sc__law_mul.nd rfl (by first | exact Or.inl rfl | exact Or.inr rfl)) (pgs_cons (pg_name (i := 5) sc__law_mul.nd rfl (by first | exact Or.inl rfl | exact Or.inr rfl)) pgs_nil)))
      (pss_one (ps_if (pt_cmpR op_ne (pv 5) pe_int (nomark _)) (pss_one (ps_for PassesOwn.never rfl (pien K (by rfl) fx.b_enumerate (pa_cons (pv 2) pa_nil)) (pgt (n := 2) K rfl (pgs_cons (pg_name (i := 6) sc__law_mul.nd rfl (by first | exact Or.inl rfl | exact Or.inr rfl)) (pgs_cons (pg_name (i := 7) sc__law_mul.nd rfl (by first | exact Or.inl rfl | exact Or.inr rfl)) pgs_nil)))
      (pss_one (ps_asg (pe_op op_add (pe_ix (ixl K) (pv 3) (pe_op op_add (pv 4) (pv 6)) (fun _ _ => rfl)) (pe_op op_mul (pv 5) (pv 7))) (pg_sub (pv 3) (pe_op op_add (pv 4) (pv 6)) set_list))))) pss_nil)))
      (pss_one (ps_ret (pe_c c__law_trim hr (by decide) rfl (pa_cons (pv 0) (pa_cons (pv 3) pa_nil)))))))), run_def (N := nm__law_mul) (fun ds d p => ?_) vs H Q E h⟩)
  · rintro ds d ⟨_, _, _, rfl, _⟩; rfl
  ·
    obtain ⟨p, a, b, rfl, hp, ha, hb, sa, rfl⟩ := p
    have hLM : LM = 1000000 := rfl
    show StD K _ [.val (.int p), .val (inD a), .val (inD b), .un, .un, .un, .un, .un] _
    refine st_seq (st_setN ((en_repT (x := (0 : Int)) (enc := D.int) (n := max ((a.length : Int) + b.length - 1) 0) (by omega) (ev_pub (en_lst1 ev_int)) (ev_max (ev_sub (ev_add (ev_lenL (ev_var rfl).h) (ev_lenL (ev_var rfl).h)) ev_int) ev_int)).cast (es := (List.replicate (a.length + b.length - 1) (0 : Int)).map D.int) (by congr 2; omega))) ?_
    refine st_seq (st_for (S := List Int) (as := enumI a) (Gs := fun l => [.val (.int p), .val (inD a), .val (inD b), .own (l.map D.int), .un, .un, .un, .un]) (step := fun l q => if q.2 = 0 then l else addAt q.1 q.2 b l) (s0 := List.replicate (a.length + b.length - 1) 0) (it_enum (ev_var rfl)) fun pre x post e => ?_) ?_
    · obtain ⟨i, x⟩ := x
      have hx := enumI_mem (mem_mid e)
      have hl : (pre.foldl (fun l q => if q.2 = 0 then l else addAt q.1 q.2 b l) (List.replicate (a.length + b.length - 1) 0)).length = a.length + b.length - 1 := by
        rw [foldl_len _ (fun l q => by split <;> simp [addAt_len])]; simp
      refine ⟨_, _, tg_tup (tgs_cons tg_name (tgs_cons tg_name tgs_nil)) rfl, ?_⟩
      generalize hs : pre.foldl (fun l q => if q.2 = 0 then l else addAt q.1 q.2 b l) (List.replicate (a.length + b.length - 1) 0) = l0 at hl ⊢
      refine StD.lp (st_if (eb_test (ev_neI (ev_var rfl) ev_int)) (fun z => ?_) fun z => ?_)
      · have z' : x ≠ 0 := by simpa using z
        rw [if_neg z']
        refine StD.weak (st_for (S := List Int) (as := enumI b) (Gs := fun l => [.val (.int p), .val (inD a), .val (inD b), .own (l.map D.int), .val (.int i), .val (.int x), .un, .un]) (step := fun l q => l.set (i + q.1).toNat (cf l (i + q.1).toNat + x * q.2)) (s0 := l0) (it_enum (ev_var rfl)) fun pre2 y post2 e2 => ?_) (.eq (.eq (.eq (.eq (.un (.un (.eq (.eq .nil))))))))
        obtain ⟨j, y⟩ := y
        have hy := enumI_mem (mem_mid e2)
        have hl2 : (pre2.foldl (fun l q => l.set (i + q.1).toNat (cf l (i + q.1).toNat + x * q.2)) l0).length = a.length + b.length - 1 := by
          rw [foldl_len _ (fun _ _ => by simp), hl]
        generalize hs2 : pre2.foldl (fun l q => l.set (i + q.1).toNat (cf l (i + q.1).toNat + x * q.2)) l0 = l1 at hl2 ⊢
        refine ⟨_, _, tg_tup (tgs_cons tg_name (tgs_cons tg_name tgs_nil)) rfl, ?_⟩
        have sx := sa x hx.2.2
        exact StD.lp (StD.weak (st_setL (l := l1) (i := 3) rfl (by omega) (by omega) (ev_add (ev_ixIO (l := l1) rfl (by omega) (by omega) (ev_add (ev_var rfl) (ev_var rfl))) (ev_mulS (.inl sx) (ev_var rfl) (ev_var rfl))) (ev_add (ev_var rfl) (ev_var rfl))) (.eq (.eq (.eq (.eq (.eq (.eq (.un (.un .nil)))))))))
      · have z' : x = 0 := by simpa using z
        rw [if_pos z']
        exact st_nilW (.eq (.eq (.eq (.eq (.un (.un (.eq (.eq .nil))))))))
    exact st_pub (i := 3) rfl (st_ret ((ev_call (ea2 (ev_var rfl) (ev_var rfl)) ⟨p, lmF a b, rfl, hp, by rw [lmF_len]; omega, rfl⟩).cast (by rw [lm_eq hp])))
abbrev s__law_power : Stmt := top 59
abbrev nm__law_power : List Str := ["p", "one", "count", "found", "turn"]
theorem sc__law_power : FnScope nm__law_power ["p", "one", "count"] (defScope s__law_power) := ⟨rfl, rfl, rfl, by decide +kernel, rfl, by decide +kernel, by decide +kernel⟩
theorem ok__law_power (fx : Fx K mg) (c__law_mul : Cal P w K mg base 2 "_law_mul" (spD K p__law_mul) []) (F : FunD K "_law_power" "_law_power" (defArgs s__law_power) (defBody s__law_power) (defScope s__law_power) [] [] f fd) : FnOk P w K mg base CX0 3 f fd ["p", "one", "count"] (spD K p__law_power) := by
  refine F.ok sc__law_power (spD_len (n := 3) ?_) (fun cdv A outer s H vs Q E hr h => ⟨_, PSs.nox ((pss_cons (ps_set (i := 3) sc__law_power.nd rfl (by first | exact Or.inl rfl | exact Or.inr rfl) (pe_lst (pa_cons pe_int pa_nil)))
      (pss_cons (ps_for PassesOwn.never rfl (pi_range1 (by rfl) fx.b_range (pa_cons (pv 2) pa_nil)) (pg_name (i := 4) sc__law_power.nd rfl (by first | exact Or.inl rfl | exact Or.inr rfl))
      (pss_one (ps_set (i := 3) sc__law_power.nd rfl (by first | exact Or.inl rfl | exact Or.inr rfl) (pe_c c__law_mul hr (by decide) rfl (pa_cons (pv 0) (pa_cons (pv 3) (pa_cons (pv 1) pa_nil)))))))
      (pss_one (ps_ret (pv 3)))))), run_def (N := nm__law_power) (fun ds d p => ?_) vs H Q E h⟩)
  · rintro ds d ⟨_, _, _, rfl, _⟩; rfl
  ·
    obtain ⟨p, a, n, rfl, hp, hp2, hn, hn2, hna, ha, rfl⟩ := p
    have hLM : LM = 1000000 := rfl
    show StD K _ [.val (.int p), .val (inD a), .val (.int n), .un, .un] _
    refine st_seq (st_set (ev_pub (en_lst1 ev_int))) ?_
    refine st_seq (st_for (S := Nat) (as := rangeI 0 n.toNat) (enc := D.int) (Gs := fun k => [.val (.int p), .val (inD a), .val (.int n), .val (inD (ppow p a k)), .un]) (step := fun k _ => k + 1) (s0 := 0) (it_rng1 (n := n) (by omega) (ev_var rfl)) fun pre x post e => ?_) ?_
    · have hk : pre.foldl (fun (k : Nat) (_ : Int) => k + 1) 0 = pre.length := (foldl_count pre 0).trans (Nat.zero_add _)
      have hpre : pre.length < n.toNat := by
        have := congrArg List.length e
        rw [rangeI_len, List.length_append, List.length_cons] at this
        omega
      rw [hk]
      have hlen := ppow_len (p := p) (a := a) (n := pre.length)
      have h5 : pre.length * a.length ≤ n.toNat * a.length := Nat.mul_le_mul_right _ (by omega)
      refine ⟨_, _, tg_name, StD.lp (StD.weak (st_set (i := 3) (ev_call (ea3 (ev_var rfl) (ev_var rfl) (ev_var rfl)) ⟨_, _, _, rfl, hp, by omega, by omega, ?_, rfl⟩)) (.eq (.eq (.eq (.eq (.un .nil))))))⟩
      exact ppow_sm hp hp2
    rw [foldl_count, rangeI_len, Nat.zero_add]
    exact st_ret (ev_var rfl)
abbrev s__law_back : Stmt := top 60
abbrev nm__law_back : List Str := ["p", "number", "item"]
theorem sc__law_back : FnScope nm__law_back ["p", "number"] (defScope s__law_back) := ⟨rfl, rfl, rfl, by decide +kernel, rfl, by decide +kernel, by decide +kernel⟩
theorem ok__law_back (fx : Fx K mg) (F : FunD K "_law_back" "_law_back" (defArgs s__law_back) (defBody s__law_back) (defScope s__law_back) [] [] f fd) : FnOk P w K mg base CX0 1 f fd ["p", "number"] (spD K p__law_back) := by
  refine F.ok sc__law_back (spD_len (n := 2) ?_) (fun cdv A outer s H vs Q E hr h => ⟨_, PSs.nox ((pss_one (ps_ret (pe_ix (ixl K) (pe_lc (own := [("item", 2)]) rfl sc__law_back.nd (pi_range2 (by rfl) fx.b_range (pa_cons pe_int (pa_cons (pv 0) pa_nil))) (blkOk_by (N := nm__law_back) (sc := defScope s__law_back) (by decide +kernel)) (fun _ _ _ _ _ => (pg_name (i := 2) sc__law_back.nd rfl (by first | exact Or.inl rfl | exact Or.inr rfl))) (fun _ _ _ _ _ => (pts_one (pt_cmpR op_eq (pe_op op_mod (pe_callTy call_int1 (by rfl) fx.b_int (by decide +kernel) (pa_cons (pe_op op_mul (pv 2) (pv 1)) pa_nil)) (pv 0)) pe_int (nomark _)))) (fun _ _ _ _ _ => (pv 2))) pe_int (fun _ _ => rfl))))), run_def (N := nm__law_back) (fun ds d p => ?_) vs H Q E h⟩)
  · rintro ds d ⟨_, _, rfl, _⟩; rfl
  ·
    obtain ⟨p, n, rfl, hp, hn, hb, rfl⟩ := p
    have hLM : LM = 1000000 := rfl
    show StD K _ [.val (.int p), .val (.int n), .un] _
    have hne : ((rangeI 1 (p - 1).toNat).filter fun low => decide (low * n % p = 1)) ≠ [] := inv_ne hp hn
    refine st_ret ((ev_ixI (by decide) (by have := List.length_pos_iff.mpr hne; rw [List.map_id'] ; omega) (ev_pub (en_lcF D.int (fun low => decide (low * n % p = 1)) (fun low => low) (by rw [rangeI_len]; have := hp.le; exact LMs (by omega)) (it_rng2 (m := 1) (n := p) (by have := hp.le; have := hp.pos; omega) ev_int (ev_var rfl)) fun pre x post e => ⟨_, _, tg_name, fun _ h => h, eb_test (ev_eqI (ev_mod hp.pos (ev_intc (ev_mulS (.inr hb) (ev_var rfl) (ev_var rfl))) (ev_var rfl)) ev_int), fun _ => ev_var rfl⟩)) ev_int).cast ?_)
    rw [List.map_id']
    unfold pinv
    cases hf : ((rangeI 1 (p - 1).toNat).filter fun low => decide (low * n % p = 1)) with
    | nil => exact absurd hf hne
    | cons x xs => rfl
abbrev s__law_rest : Stmt := top 61
abbrev nm__law_rest : List Str := ["p", "one", "other", "left", "back", "turn", "by"]
theorem sc__law_rest : FnScope nm__law_rest ["p", "one", "other"] (defScope s__law_rest) := ⟨rfl, rfl, rfl, by decide +kernel, rfl, by decide +kernel, by decide +kernel⟩
theorem ok__law_rest (fx : Fx K mg) (c__law_back : Cal P w K mg base 1 "_law_back" (spD K p__law_back) []) (c__law_add : Cal P w K mg base 2 "_law_add" (spD K p__law_add) []) (c__law_scale : Cal P w K mg base 2 "_law_scale" (spD K p__law_scale) []) (c__law_mul : Cal P w K mg base 2 "_law_mul" (spD K p__law_mul) []) (F : FunD K "_law_rest" "_law_rest" (defArgs s__law_rest) (defBody s__law_rest) (defScope s__law_rest) [] [] f fd) : FnOk P w K mg base CX0 3 f fd ["p", "one", "other"] (spD K p__law_rest) := by
  refine F.ok sc__law_rest (spD_len (n := 3) ?_) (fun cdv A outer s H vs Q E hr h => ⟨_, PSs.nox ((pss_cons (ps_par (i := 3) (j := 4) (by rfl) sc__law_rest.nd rfl rfl (by decide) rfl rfl (pa_cons (pe_callTy (lstOf K) (by rfl) fx.b_list (by decide +kernel) (pa_cons (pv 1) pa_nil)) (pa_cons (pe_c c__law_back hr (by decide) rfl (pa_cons (pv 0) (pa_cons (pe_ix (ixl K) (pv 2) (pe_un un_neg pe_int) (fun _ _ => rfl)) pa_nil))) pa_nil)) (by rfl))
      (pss_cons (ps_for PassesOwn.never rfl (pi_range1 (by rfl) fx.b_range (pa_cons (pe_callB (lenS K) (by rfl) fx.b_len (by decide +kernel) (pa_cons (pv 1) pa_nil)) pa_nil)) (pg_name (i := 5) sc__law_rest.nd rfl (by first | exact Or.inl rfl | exact Or.inr rfl))
      (pss_one (ps_if (pt_cmpR op_ge (pe_callB (lenS K) (by rfl) fx.b_len (by decide +kernel) (pa_cons (pv 3) pa_nil)) (pe_callB (lenS K) (by rfl) fx.b_len (by decide +kernel) (pa_cons (pv 2) pa_nil)) (nomark _)) (pss_cons (ps_set (i := 6) sc__law_rest.nd rfl (by first | exact Or.inl rfl | exact Or.inr rfl) (pe_op op_cat (pe_op op_rep (pe_lst (pa_cons pe_int pa_nil)) (pe_op op_sub (pe_callB (lenS K) (by rfl) fx.b_len (by decide +kernel) (pa_cons (pv 3) pa_nil)) (pe_callB (lenS K) (by rfl) fx.b_len (by decide +kernel) (pa_cons (pv 2) pa_nil)))) (pe_lst (pa_cons (pe_op op_mul (pe_ix (ixl K) (pv 3) (pe_un un_neg pe_int) (fun _ _ => rfl)) (pv 4)) pa_nil))))
      (pss_one (ps_set (i := 3) sc__law_rest.nd rfl (by first | exact Or.inl rfl | exact Or.inr rfl) (pe_c c__law_add hr (by decide) rfl (pa_cons (pv 0) (pa_cons (pv 3) (pa_cons (pe_c c__law_scale hr (by decide) rfl (pa_cons (pv 0) (pa_cons (pe_c c__law_mul hr (by decide) rfl (pa_cons (pv 0) (pa_cons (pv 6) (pa_cons (pv 2) pa_nil)))) (pa_cons (pe_un un_neg pe_int) pa_nil)))) pa_nil))))))) pss_nil)))
      (pss_one (ps_ret (pv 3)))))), run_def (N := nm__law_rest) (fun ds d p => ?_) vs H Q E h⟩)
  · rintro ds d ⟨_, _, _, rfl, _⟩; rfl
  ·
    obtain ⟨p, a, b, rfl, ⟨hp, ha, hb, hne, nb, na⟩, rfl⟩ := p
    have hLM : LM = 1000000 := rfl
    have hpp := hp.pos
    have hpl := hp.le
    have hm := nb.lmod hne
    have hlb := nb.lst hne
    obtain ⟨k1, k2, k3⟩ := pinv_mem hp hm
    have hbl := List.length_pos_iff.mpr hne
    show StD K _ [.val (.int p), .val (inD a), .val (inD b), .un, .un, .un, .un] _
    refine st_seq (st_par (c1 := .val (inD a)) (em_v (ev_pub (en_listof (ev_var rfl)))) (em_v (ev_call (ea2 (ev_var rfl) (ev_ixN hne (ev_var rfl) ev_m1)) ⟨p, lastI b, rfl, hp, hm, by omega, rfl⟩)) (fun h => nomatch h) (fun h => nomatch h) (by decide)) ?_
    refine st_seq (st_for (S := List Int) (as := rangeI 0 a.length) (enc := D.int) (Gs := fun l => [.val (.int p), .val (inD a), .val (inD b), .val (inD l), .val (.int (pinv p (lastI b))), .un, .un]) (step := fun l _ => lrStep p (pinv p (lastI b)) b l) (s0 := a) (it_rng1 (n := a.length) (by omega) (ev_lenL (ev_var (i := 1) rfl).h)) fun pre x post e => ⟨_, _, tg_name, ?_⟩) ?_
    · obtain ⟨nl, hl⟩ := lr_inv (p := p) (b := b) (back := pinv p (lastI b)) hpp hne pre a na
      generalize pre.foldl (fun (l : List Int) (_ : Int) => lrStep p (pinv p (lastI b)) b l) a = l at nl hl ⊢
      refine StD.lp (StD.weak (G1 := [.val (.int p), .val (inD a), .val (inD b), .val (inD (lrStep p (pinv p (lastI b)) b l)), .val (.int (pinv p (lastI b))), .un, .un]) (st_if (x := decide (b.length ≤ l.length)) ((eb_test (ev_ge (ev_lenL (ev_var rfl).h) (ev_lenL (ev_var rfl).h))).cast (decide_eq_decide.mpr Int.ofNat_le)) (fun z => ?_) fun z => ?_) (Weak.refl _))
      · have z' : b.length ≤ l.length := by simpa using z
        have hln : l ≠ [] := fun y => by subst y; have z2 : b.length ≤ 0 := z'; omega
        have hll := nl.lst hln
        have hy0 : 0 ≤ lastI l * pinv p (lastI b) := Int.mul_nonneg (by omega) (by omega)
        have hy1 : lastI l * pinv p (lastI b) ≤ 13 * 13 := Int.mul_le_mul (by omega) (by omega) (by omega) (by omega)
        have hby : (lrBy (pinv p (lastI b)) b l).length = l.length - b.length + 1 := by unfold lrBy; simp
        have e1 : lrStep p (pinv p (lastI b)) b l = padd p l (pscl p (pmul p (lrBy (pinv p (lastI b)) b l) b) (-1)) := if_pos z'
        have m1 := pmul_len (p := p) (a := lrBy (pinv p (lastI b)) b l) (b := b)
        have m2 := pscl_len (p := p) (a := pmul p (lrBy (pinv p (lastI b)) b l) b) (n := -1)
        rw [e1]
        refine st_seq (st_set (d := inD (lrBy (pinv p (lastI b)) b l)) (ev_pub ((en_catT (enc := D.int) (as := List.replicate ((l.length : Int) - b.length).toNat 0) (bs := [lastI l * pinv p (lastI b)]) (by simp; omega) (ev_pub (en_repT (by omega) (ev_pub (en_lst1 ev_int)) (ev_sub (ev_lenL (ev_var rfl).h) (ev_lenL (ev_var rfl).h)))) (ev_pub (en_lst1 (ev_mulS (.inl (by omega)) (ev_ixN hln (ev_var rfl) ev_m1) (ev_var rfl))))).cast (by unfold lrBy; congr 3; omega)))) ?_
        exact StD.weak (st_set (ev_call (ea3 (ev_var rfl) (ev_var rfl) (ev_call (ea3 (ev_var rfl) (ev_call (ea3 (ev_var rfl) (ev_var rfl) (ev_var rfl)) ⟨p, lrBy (pinv p (lastI b)) b l, b, rfl, hpp, by omega, by omega, lrBy_sm hy0 hy1, rfl⟩) (ev_neg ev_int)) ⟨p, _, -1, rfl, hpp, by omega, by decide, rfl⟩)) ⟨p, l, _, rfl, hpp, by omega, by omega, rfl⟩)) (.eq (.eq (.eq (.eq (.eq (.un (.un .nil)))))))
      · have z' : ¬ b.length ≤ l.length := by simpa using z
        rw [show lrStep p (pinv p (lastI b)) b l = l from if_neg z']
        exact st_nilW (.eq (.eq (.eq (.eq (.eq (.un (.un .nil)))))))
    · rw [lr_eq hp hne nb na]
      exact st_ret (ev_var rfl)
abbrev s__law_common : Stmt := top 62
abbrev nm__law_common : List Str := ["p", "one", "other", "low", "high", "turn"]
theorem sc__law_common : FnScope nm__law_common ["p", "one", "other"] (defScope s__law_common) := ⟨rfl, rfl, rfl, by decide +kernel, rfl, by decide +kernel, by decide +kernel⟩
theorem ok__law_common (fx : Fx K mg) (c__law_rest : Cal P w K mg base 3 "_law_rest" (spD K p__law_rest) []) (F : FunD K "_law_common" "_law_common" (defArgs s__law_common) (defBody s__law_common) (defScope s__law_common) [] [] f fd) : FnOk P w K mg base CX0 4 f fd ["p", "one", "other"] (spD K p__law_common) := by
  refine F.ok sc__law_common (spD_len (n := 3) ?_) (fun cdv A outer s H vs Q E hr h => ⟨_, PSs.nox ((pss_cons (ps_par (i := 3) (j := 4) (by rfl) sc__law_common.nd rfl rfl (by decide) rfl rfl (pa_cons (pe_callTy (lstOf K) (by rfl) fx.b_list (by decide +kernel) (pa_cons (pv 1) pa_nil)) (pa_cons (pe_callTy (lstOf K) (by rfl) fx.b_list (by decide +kernel) (pa_cons (pv 2) pa_nil)) pa_nil)) (by rfl))
      (pss_cons (ps_for PassesOwn.never rfl (pi_range1 (by rfl) fx.b_range (pa_cons (pe_op op_add (pe_op op_add (pe_callB (lenS K) (by rfl) fx.b_len (by decide +kernel) (pa_cons (pv 1) pa_nil)) (pe_callB (lenS K) (by rfl) fx.b_len (by decide +kernel) (pa_cons (pv 2) pa_nil))) pe_int) pa_nil)) (pg_name (i := 5) sc__law_common.nd rfl (by first | exact Or.inl rfl | exact Or.inr rfl))
      (pss_one (ps_if (pt_cmpR (opNe K hr.units) (pv 4) (pe_lst pa_nil) (nomark _)) (pss_one (ps_par (i := 3) (j := 4) (by rfl) sc__law_common.nd rfl rfl (by decide) rfl rfl (pa_cons (pv 4) (pa_cons (pe_c c__law_rest hr (by decide) rfl (pa_cons (pv 0) (pa_cons (pv 3) (pa_cons (pv 4) pa_nil)))) pa_nil)) (by rfl))) pss_nil)))
      (pss_one (ps_ret (pv 3)))))), run_def (N := nm__law_common) (fun ds d p => ?_) vs H Q E h⟩)
  · rintro ds d ⟨_, _, _, rfl, _⟩; rfl
  ·
    obtain ⟨p, a, b, rfl, ⟨hp, ha, hb, na, nb⟩, rfl⟩ := p
    have hLM : LM = 1000000 := rfl
    show StD K _ [.val (.int p), .val (inD a), .val (inD b), .un, .un, .un] _
    refine st_seq (st_par (c1 := .val (inD a)) (c2 := .val (inD b)) (em_v (ev_pub (en_listof (ev_var rfl)))) (em_v (ev_pub (en_listof (ev_var rfl)))) (fun h => nomatch h) (fun h => nomatch h) (by decide)) ?_
    refine st_seq (st_for (S := List Int × List Int) (as := rangeI 0 (a.length + b.length + 1)) (enc := D.int) (Gs := fun s => [.val (.int p), .val (inD a), .val (inD b), .val (inD s.1), .val (inD s.2), .un]) (step := fun s _ => lcStep p s) (s0 := (a, b)) (it_rng1 (n := (a.length : Int) + b.length + 1) (by omega) (ev_add (ev_add (ev_lenL (ev_var (i := 1) rfl).h) (ev_lenL (ev_var (i := 2) rfl).h)) ev_int)) fun pre x post e => ⟨_, _, tg_name, ?_⟩) ?_
    · obtain ⟨n1, n2, h1, h2⟩ := lc_inv hp 200000 pre (a, b) na nb ha hb
      generalize pre.foldl (fun (s : List Int × List Int) (_ : Int) => lcStep p s) (a, b) = s at n1 n2 h1 h2 ⊢
      obtain ⟨l, q⟩ := s
      simp only at n1 n2 h1 h2
      refine StD.lp (StD.weak (G1 := [.val (.int p), .val (inD a), .val (inD b), .val (inD (lcStep p (l, q)).1), .val (inD (lcStep p (l, q)).2), .val (.int x)]) (st_if (eb_test (ev_ne0 (ev_var rfl).h)) (fun z => ?_) fun z => ?_) (.eq (.eq (.eq (.eq (.eq (.un .nil)))))))
      · have z' : q ≠ [] := by simpa using z
        rw [show lcStep p (l, q) = (q, prem p l q) from if_neg z']
        exact st_par (c1 := .val (inD q)) (em_v (ev_var rfl)) (em_v (ev_call (ea3 (ev_var rfl) (ev_var rfl) (ev_var rfl)) ⟨p, l, q, rfl, ⟨hp, h1, h2, z', n2, n1⟩, rfl⟩)) (fun h => nomatch h) (fun h => nomatch h) (by decide)
      · have z' : q = [] := by simpa using z
        rw [show lcStep p (l, q) = (l, q) from if_pos z']
        exact st_nil
    · exact st_ret (ev_var rfl)
abbrev s__law_fall : Stmt := top 63
abbrev nm__law_fall : List Str := ["p", "one", "at", "number"]
theorem sc__law_fall : FnScope nm__law_fall ["p", "one"] (defScope s__law_fall) := ⟨rfl, rfl, rfl, by decide +kernel, rfl, by decide +kernel, by decide +kernel⟩
theorem ok__law_fall (fx : Fx K mg) (c__law_trim : Cal P w K mg base 1 "_law_trim" (spD K p__law_trim) []) (F : FunD K "_law_fall" "_law_fall" (defArgs s__law_fall) (defBody s__law_fall) (defScope s__law_fall) [] [] f fd) : FnOk P w K mg base CX0 2 f fd ["p", "one"] (spD K p__law_fall) := by
  refine F.ok sc__law_fall (spD_len (n := 2) ?_) (fun cdv A outer s H vs Q E hr h => ⟨_, PSs.nox ((pss_one (ps_ret (pe_c c__law_trim hr (by decide) rfl (pa_cons (pv 0) (pa_cons (pe_slice (sll K) (pe_lc (own := [("at", 2), ("number", 3)]) rfl sc__law_fall.nd (pien K (by rfl) fx.b_enumerate (pa_cons (pv 1) pa_nil)) (blkOk_by (N := nm__law_fall) (sc := defScope s__law_fall) (by decide +kernel)) (fun _ _ _ _ _ => (pgt (n := 2) K rfl (pgs_cons (pg_name (i := 2) sc__law_fall.nd rfl (by first | exact Or.inl rfl | exact Or.inr rfl)) (pgs_cons (pg_name (i := 3) sc__law_fall.nd rfl (by first | exact Or.inl rfl | exact Or.inr rfl)) pgs_nil)))) (fun _ _ _ _ _ => pts_nil) (fun _ _ _ _ _ => (pe_op op_mul (pv 2) (pv 3)))) (po_some pe_int) po_none) pa_nil)))))), run_def (N := nm__law_fall) (fun ds d p => ?_) vs H Q E h⟩)
  · rintro ds d ⟨_, _, rfl, _⟩; rfl
  ·
    obtain ⟨p, a, rfl, hp, ha, rfl⟩ := p
    have hLM : LM = 1000000 := rfl
    show StD K _ [.val (.int p), .val (inD a), .un, .un] _
    refine st_ret (ev_call (ea2 (ev_var rfl) (ev_pub ((en_slice (ev_pub (en_lcT D.int (fun q : Int × Int => q.1 * q.2) (by rw [enumI_len]; exact LMs (by omega)) (it_enum (ev_var rfl)) fun pre x post e => ⟨_, _, tg_tup (tgs_cons tg_name (tgs_cons tg_name tgs_nil)) rfl, fun _ h => h, ev_mulS (.inl (by have := enumI_mem (mem_mid e); omega)) (ev_var rfl) (ev_var rfl)⟩)) (eo_some ev_int) eo_no).cast (cut_tail _)))) ⟨_, _, rfl, hp, by rw [List.length_tail, List.length_map, enumI_len]; omega, rfl⟩)
abbrev s__law_of : Stmt := top 65
abbrev nm__law_of : List Str := ["told"]
theorem sc__law_of : FnScope nm__law_of ["told"] (defScope s__law_of) := ⟨rfl, rfl, rfl, by decide +kernel, rfl, by decide +kernel, by decide +kernel⟩
theorem ok__law_of (fx : Fx K mg) (m_Curve : Mak P w K mg base 7 "Curve" (He.ga K "Curve") (spI K (He.ga K "Curve") (p_Curve___init__ K)) []) (F : FunD K "_law_of" "_law_of" (defArgs s__law_of) (defBody s__law_of) (defScope s__law_of) [] [] f fd) : FnOk P w K mg base CX0 9 f fd ["told"] (spD K (p__law_of K)) := by
  refine F.ok sc__law_of (spD_len (n := 1) ?_) (fun cdv A outer s H vs Q E hr h => ⟨_, PSs.nox ((pss_one (ps_ret (pe_mk m_Curve hr (by decide) rfl (pa_cons (pe_ix (ixt K) (pv 0) pe_int (fun _ _ => rfl)) (pa_cons (pe_callTy (lstOf K) (by rfl) fx.b_list (by decide +kernel) (pa_cons (pe_ix (ixt K) (pv 0) pe_int (fun _ _ => rfl)) pa_nil)) pa_nil)))))), run_def (N := nm__law_of) (fun ds d p => ?_) vs H Q E h⟩)
  · rintro ds d ⟨_, rfl, _⟩; rfl
  ·
    obtain ⟨c, rfl, cv, rfl⟩ := p
    show StD K _ [.val (toldD c)] _
    exact st_ret (ev_make (ea2 (ev_tix0 (ev_var rfl)) (ev_pub (en_listof (ev_tix1 (ev_var rfl))))) ⟨c.1, c.2, rfl, cv, rfl⟩)
end
end Cw
set_option maxHeartbeats 4000000
namespace Cw
open PySem PySem.Spec PyProof.Rows L2
open C8 (Cal Met Mak pe_c pe_mk pe_mt pe_mt0 pe_gc InsC call_isC)
section
variable {P : Program} {w : World} {K : Fg} {mg : Str → Option Value} {base : Heap} {f : Addr} {fd : FuncData}
local macro_rules | `(tactic| walk_at "ln") => `(tactic| first
  | with_reducible assumption
  | focus (with_reducible refine ln_pmul (n := ?_) (m := ?_) ?_ ?_; rotate_left 2; walk_at "ln"; walk_at "ln")
  | focus (with_reducible refine ln_padd (n := ?_) (m := ?_) ?_ ?_; rotate_left 2; walk_at "ln"; walk_at "ln")
  | focus (with_reducible refine ln_psub (n := ?_) (m := ?_) ?_ ?_; rotate_left 2; walk_at "ln"; walk_at "ln")
  | focus (with_reducible refine ln_pneg (n := ?_) ?_; rotate_left 1; walk_at "ln")
  | focus (with_reducible refine ln_pscl (n := ?_) ?_; rotate_left 1; walk_at "ln")
  | focus (with_reducible refine ln_pder (n := ?_) ?_; rotate_left 1; walk_at "ln")
  | focus (with_reducible refine ln_pquo (n := ?_) ?_; rotate_left 1; walk_at "ln")
  | focus (with_reducible refine ln_trim (n := ?_) ?_; rotate_left 1; walk_at "ln")
  | with_reducible exact ln_one
  | with_reducible exact ln_nil
  | exact Nat.le_refl _)
local macro_rules | `(tactic| walk_at "le") => `(tactic| first
  | with_reducible assumption
  | focus (refine Nat.le_trans (m := ?_) ?_ ?_; rotate_left; walk_at "ln"; omega)
  | omega)
local macro_rules | `(tactic| walk_at "nr") => `(tactic| first
  | with_reducible assumption
  | (with_reducible refine nr_pmul ?_; assumption)
  | (with_reducible refine nr_padd ?_; assumption)
  | (with_reducible refine nr_psub ?_; assumption)
  | (with_reducible refine nr_pneg ?_; assumption)
  | (with_reducible refine nr_pscl ?_; assumption)
  | (with_reducible refine nr_pder ?_; assumption)
  | (with_reducible refine nr_pquo ?_; assumption)
  | (with_reducible refine nr_trim ?_; assumption)
  | (with_reducible refine nr_ppow ?_; assumption)
  | with_reducible exact nrm_nil
  | (with_reducible refine one_nrm ?_; assumption)
  | ((with_reducible refine nr_pgcd ?_ ?_ ?_) <;> walk_at "nr"))
local macro_rules | `(tactic| walk_at "fi") => `(tactic| first
  | with_reducible assumption
  | focus (with_reducible refine fTimes_in (n := ?_) (m := ?_) ?_ ?_ ?_; rotate_left 2; assumption; walk_at "fi"; walk_at "fi")
  | focus (with_reducible refine fPlus_in (n := ?_) (m := ?_) ?_ ?_ ?_; rotate_left 2; assumption; walk_at "fi"; walk_at "fi")
  | focus (with_reducible refine fSlope_in (n := ?_) ?_ ?_; rotate_left 1; assumption; walk_at "fi")
  | (with_reducible exact fPart_in (by assumption) (by assumption) _))
local macro_rules | `(tactic| walk_at "pre") => `(tactic| first
  | with_reducible exact rfl
  | with_reducible exact trivial
  | with_reducible assumption
  | focus (with_reducible refine FnIn.mono (n := ?_) ?_ ?_; rotate_left; walk_at "fi"; omega)
  | ((with_reducible refine And.intro ?_ ?_) <;> walk_at "pre")
  | focus (with_reducible refine Nrm.sm (p := ?_) ?_ ?_; rotate_left; walk_at "nr"; assumption)
  | walk_at "nr"
  | walk_at "le")
local macro_rules | `(tactic| walk_at "mul") => `(tactic| first
  | exact Or.inl (by omega)
  | exact Or.inr (by omega)
  | exact Or.inl (by decide)
  | exact Or.inr (by decide))
local macro_rules | `(tactic| walk_at "div") => `(tactic| (unfold CDiv; first | omega | decide))
abbrev s_lines_times : Stmt := top 43
abbrev nm_lines_times : List Str := ["p", "one", "other", "columns", "found", "line", "at", "low", "high", "column"]
theorem sc_lines_times : FnScope nm_lines_times ["p", "one", "other"] (defScope s_lines_times) := ⟨rfl, rfl, rfl, by decide +kernel, rfl, by decide +kernel, by decide +kernel⟩
theorem ok_lines_times (fx : Fx K mg) (F : FunD K "lines_times" "lines_times" (defArgs s_lines_times) (defBody s_lines_times) (defScope s_lines_times) [] [] f fd) : FnOk P w K mg base CX0 1 f fd ["p", "one", "other"] (spD K p_lines_times) := by
  refine F.ok sc_lines_times (spD_len (n := 3) ?_) (fun cdv A outer s H vs Q E hr h => ⟨_, PSs.nox ((pss_cons (ps_par (i := 3) (j := 4) (by rfl) sc_lines_times.nd rfl rfl (by decide) rfl rfl (pa_cons (pe_lc (own := [("at", 6)]) rfl sc_lines_times.nd (pi_range1 (by rfl) fx.b_range (pa_cons (pe_callB (lenS K) (by rfl) fx.b_len (by decide +kernel) (pa_cons (pv 2) pa_nil)) pa_nil)) (blkOk_by (N := nm_lines_times) (sc := defScope s_lines_times) (by decide +kernel)) (fun _ _ _ _ _ => (pg_name (i := 6) sc_lines_times.nd rfl (by first | exact Or.inl rfl | exact Or.inr rfl))) (fun _ _ _ _ _ => pts_nil) (fun _ _ _ _ _ => (pe_lc (own := [("line", 5)]) rfl sc_lines_times.nd (pil K (pv 2)) (blkOk_by (by kernel_rfl)) (fun _ _ _ _ _ => (pg_name (i := 5) sc_lines_times.nd rfl (by first | exact Or.inl rfl | exact Or.inr rfl))) (fun _ _ _ _ _ => pts_nil) (fun _ _ _ _ _ => (pe_ix (ixl K) (pv 5) (pv 6) (fun _ _ => rfl)))))) (pa_cons (pe_lst pa_nil) pa_nil)) (by rfl))
      (pss_cons (ps_for PassesOwn.never rfl (pil K (pv 1)) (pg_name (i := 5) sc_lines_times.nd rfl (by first | exact Or.inl rfl | exact Or.inr rfl))
      (pss_one (ps_expr (pe_bm PySem.F.plainAttrs_list PySem.F.slot_list_append PySem.F.type_list_append mt_append (pv 4) (pa_cons (pe_lc (own := [("column", 9)]) rfl sc_lines_times.nd (pil K (pv 3)) (blkOk_by (N := nm_lines_times) (sc := defScope s_lines_times) (by decide +kernel)) (fun _ _ _ _ _ => (pg_name (i := 9) sc_lines_times.nd rfl (by first | exact Or.inl rfl | exact Or.inr rfl))) (fun _ _ _ _ _ => pts_nil) (fun _ _ _ _ _ => (pe_op op_mod (pe_callB (sumS K rfl) (by rfl) fx.b_sum (by decide +kernel) (pa_cons (pe_lc (own := [("low", 7), ("high", 8)]) rfl sc_lines_times.nd (pizipS K (by rfl) fx.b_zip (pa_cons (pv 5) (pa_cons (pv 9) pa_nil)) (pk_cons pe_bl pk_nil)) (blkOk_by (by kernel_rfl)) (fun _ _ _ _ _ => (pgt (n := 2) K rfl (pgs_cons (pg_name (i := 7) sc_lines_times.nd rfl (by first | exact Or.inl rfl | exact Or.inr rfl)) (pgs_cons (pg_name (i := 8) sc_lines_times.nd rfl (by first | exact Or.inl rfl | exact Or.inr rfl)) pgs_nil)))) (fun _ _ _ _ _ => pts_nil) (fun _ _ _ _ _ => (pe_op op_mul (pv 7) (pv 8)))) pa_nil)) (pv 0)))) pa_nil)))))
      (pss_one (ps_ret (pv 4)))))), run_def (N := nm_lines_times) (fun ds d p => ?_) vs H Q E h⟩)
  · rintro ds d ⟨_, _, _, _, rfl, _⟩; rfl
  ·
    obtain ⟨p, g, A, B, rfl, pm, hg, hA, hB, rfl⟩ := p
    have hLM : LM = 1000000 := rfl
    have hp := pm.pos
    have hAl := hA.ln
    have hBl := hB.ln
    have hcl := cols_len (B := B)
    have colB : ∀ l ∈ colsOf B, l.length = g ∧ ∀ x ∈ l, 0 ≤ x ∧ x < p := fun l hl => by
      obtain ⟨j, hj, rfl⟩ := List.mem_map.mp hl
      have hj := rangeI_mem hj
      refine ⟨by rw [List.length_map, hBl], fun x hx => ?_⟩
      obtain ⟨m, hm, rfl⟩ := List.mem_map.mp hx
      exact hB.bd m hm _ (List.mem_of_getElem? (cf_get (by rw [hB.rl m hm]; omega)))
    show StD K _ [.val (.int p), .val (mxD A), .val (mxD B), .un, .un, .un, .un, .un, .un, .un] _
    refine st_seq (st_par (em_v (ev_pub (en_lcT inD (fun j : Int => B.map fun l => cf l j.toNat) (by rw [rangeI_len]; exact LMs (by omega)) (it_rng1 (n := B.length) (by omega) (ev_lenL (ev_var rfl).h)) fun pre j post e => ⟨_, _, tg_name, fun _ h => h, ev_pub (en_lcT D.int (fun l : List Int => cf l j.toNat) (LMs (by omega)) (it_list (ev_var (i := 2) rfl)) fun pre2 l post2 e2 => ⟨_, _, tg_name, fun _ h => h, ev_ixI (by have := rangeI_mem (mem_mid e); omega) (by have := rangeI_mem (mem_mid e); have := hB.rl l (mem_mid e2); omega) (ev_var rfl) (ev_var rfl)⟩)⟩))) (em_n en_lst0) (fun h => nomatch h) (fun h => nomatch h) (by decide)) ?_
    show StD K _ [.val (.int p), .val (mxD A), .val (mxD B), .val (mxD (colsOf B)), .own [], .un, .un, .un, .un, .un] _
    refine st_seq (st_for (S := Mat) (as := A) (enc := inD) (Gs := fun X => [.val (.int p), .val (mxD A), .val (mxD B), .val (mxD (colsOf B)), .own (X.map inD), .un, .un, .un, .un, .un]) (step := fun X l => X ++ [(colsOf B).map fun c => dotI l c % p]) (s0 := []) (it_list (ev_var (i := 1) rfl)) fun pre l post e => ⟨_, _, tg_name, ?_⟩) ?_
    · have hpl : pre.length < g := by rw [← hAl, e]; simp
      have hX : (pre.foldl (fun X l => X ++ [(colsOf B).map fun c => dotI l c % p]) ([] : Mat)).length = pre.length := by rw [foldl_app]; simp
      generalize pre.foldl (fun X l => X ++ [(colsOf B).map fun c => dotI l c % p]) ([] : Mat) = X at hX ⊢
      have hl := hA.rl l (mem_mid e)
      have hb := hA.bd l (mem_mid e)
      refine StD.lp (StD.weak (st_appT (enc := inD) (l := X) rfl (by omega) (ev_pub (en_lcT D.int (fun c : List Int => dotI l c % p) (LMs (by omega)) (it_list (ev_var (i := 3) rfl)) fun pre3 c post3 e3 => ⟨_, _, tg_name, fun _ h => h, ev_mod hp (ev_cb (ea1 (ev_pub (en_lcT D.int (fun q : Int × Int => q.1 * q.2) (LMs (by rw [List.length_zip]; omega)) (it_zipS (ea := D.int) (eb := D.int) (as := l) (bs := c) (by have := (colB c (mem_mid e3)).1; omega) (ev_var rfl) (ev_var rfl)) fun pre4 q post4 e4 => ⟨_, _, tg_tup (tgs_cons tg_name (tgs_cons tg_name tgs_nil)) rfl, fun _ h => h, ev_mulS (.inl (dig p pm (hb _ (List.of_mem_zip (mem_mid e4)).1))) (ev_var rfl) (ev_var rfl)⟩))) oa_sum) (ev_var rfl)⟩))) (.eq (.eq (.eq (.eq (.eq (.un (.un (.un (.un (.un .nil)))))))))))
    rw [foldl_app]
    exact st_retO rfl
abbrev s_lines_raised : Stmt := top 44
abbrev nm_lines_raised : List Str := ["p", "lines", "count", "found", "base", "left", "high", "low"]
theorem sc_lines_raised : FnScope nm_lines_raised ["p", "lines", "count"] (defScope s_lines_raised) := ⟨rfl, rfl, rfl, by decide +kernel, rfl, by decide +kernel, by decide +kernel⟩
theorem ok_lines_raised (fx : Fx K mg) (c_lines_times : Cal P w K mg base 1 "lines_times" (spD K p_lines_times) []) (F : FunD K "lines_raised" "lines_raised" (defArgs s_lines_raised) (defBody s_lines_raised) (defScope s_lines_raised) [] [] f fd) : FnOk P w K mg base CX0 2 f fd ["p", "lines", "count"] (spD K p_lines_raised) := by
  refine F.ok sc_lines_raised (spD_len (n := 3) ?_) (fun cdv A outer s H vs Q E hr h => ⟨_, PSs.nox ((pss_cons (ps_setLc (i := 3) (own := [("low", 7)]) rfl sc_lines_raised.nd rfl rfl (sw_true rfl rfl rfl (by decide +kernel)) (pi_range1 (by rfl) fx.b_range (pa_cons (pe_callB (lenS K) (by rfl) fx.b_len (by decide +kernel) (pa_cons (pv 1) pa_nil)) pa_nil)) (blkOk_by (N := nm_lines_raised) (sc := defScope s_lines_raised) (by decide +kernel)) (fun _ _ _ _ _ => (pg_name (i := 7) sc_lines_raised.nd rfl (by first | exact Or.inl rfl | exact Or.inr rfl))) (fun _ _ _ _ _ => pts_nil) (fun _ _ _ _ _ => (pe_lc (own := [("high", 6)]) rfl sc_lines_raised.nd (pi_range1 (by rfl) fx.b_range (pa_cons (pe_callB (lenS K) (by rfl) fx.b_len (by decide +kernel) (pa_cons (pv 1) pa_nil)) pa_nil)) (blkOk_by (by kernel_rfl)) (fun _ _ _ _ _ => (pg_name (i := 6) sc_lines_raised.nd rfl (by first | exact Or.inl rfl | exact Or.inr rfl))) (fun _ _ _ _ _ => pts_nil) (fun _ _ _ _ _ => (pe_callTy call_int1 (by rfl) fx.b_int (by decide +kernel) (pa_cons (pe_cmpR op_eq (pv 7) (pv 6) (nomark _)) pa_nil))))))
      (pss_cons (ps_par (i := 4) (j := 5) (by rfl) sc_lines_raised.nd rfl rfl (by decide) rfl rfl (pa_cons (pv 1) (pa_cons (pv 2) pa_nil)) (by rfl))
      (pss_cons (ps_while PassesOwn.never (pt_cmpR op_gt (pv 5) pe_int (nomark _))
      (pss_cons (ps_if (pt_cmpR op_eq (pe_op op_mod (pv 5) pe_int) pe_int (nomark _)) (pss_one (ps_set (i := 3) sc_lines_raised.nd rfl (by first | exact Or.inl rfl | exact Or.inr rfl) (pe_c c_lines_times hr (by decide) rfl (pa_cons (pv 0) (pa_cons (pv 3) (pa_cons (pv 4) pa_nil)))))) pss_nil)
      (pss_one (ps_par (i := 4) (j := 5) (by rfl) sc_lines_raised.nd rfl rfl (by decide) rfl rfl (pa_cons (pe_c c_lines_times hr (by decide) rfl (pa_cons (pv 0) (pa_cons (pv 4) (pa_cons (pv 4) pa_nil)))) (pa_cons (pe_op op_fdiv (pv 5) pe_int) pa_nil)) (by rfl)))))
      (pss_one (ps_ret (pv 3))))))), run_def (N := nm_lines_raised) (fun ds d p => ?_) vs H Q E h⟩)
  · rintro ds d ⟨_, _, _, _, rfl, _⟩; rfl
  ·
    obtain ⟨p, g, A, n, rfl, pm, hg, hA, h0, h1, rfl⟩ := p
    have hLM : LM = 1000000 := rfl
    have hp := pm.pos
    have hAl := hA.ln
    show StD K _ [.val (.int p), .val (mxD A), .val (.int n), .un, .un, .un, .un, .un] _
    refine st_seq (st_set (d := mxD (mxOne A.length)) (ev_pub (en_lcT inD (fun low : Int => (rangeI 0 A.length).map fun high : Int => if low = high then (1 : Int) else 0) (by rw [rangeI_len]; exact LMs (by omega)) (it_rng1 (n := A.length) (by omega) (ev_lenL (ev_var rfl).h)) fun pre low post e => ⟨_, _, tg_name, fun _ h => h, ev_pub (en_lcT D.int (fun high : Int => if low = high then (1 : Int) else 0) (by rw [rangeI_len]; exact LMs (by omega)) (it_rng1 (n := A.length) (by omega) (ev_lenL (ev_var (i := 1) rfl).h)) fun pre2 high post2 e2 => ⟨_, _, tg_name, fun _ h => h, (ev_cb (ea1 (ev_eqI (ev_var rfl) (ev_var rfl))) oa_intB).cast (by simp)⟩)⟩))) ?_
    refine st_seq (st_par (em_v (ev_var (i := 1) rfl)) (em_v (ev_var (i := 2) rfl)) (fun h => nomatch h) (fun h => nomatch h) (by decide)) ?_
    refine st_seq (st_while (S := Mat × Mat × Int) (Gs := fun s => [.val (.int p), .val (mxD A), .val (.int n), .val (mxD s.1), .val (mxD s.2.1), .val (.int s.2.2), .un, .un]) (Iv := fun s => 0 ≤ s.2.2 ∧ MxOk p g s.1 ∧ MxOk p g s.2.1) (μ := fun s => s.2.2.toNat) (f := lrS p) (cd := lrC) n.toNat (s0 := (mxOne A.length, A, n)) (Nat.le_refl _) ⟨h0, by rw [hAl]; exact one_ok (by have := pm.ge; omega), hA⟩ ?_ ?_) ?_
    · intro s _
      exact eb_test (ev_gt (ev_var rfl) ev_int)
    · rintro ⟨X, B, m⟩ ⟨i0, hX, hB⟩ hc
      simp only at i0 hX hB
      have hm : 0 < m := by simpa [lrC] using hc
      have hXB := mul_ok hp hX hB
      refine ⟨StD.lp (st_seq (G1 := [.val (.int p), .val (mxD A), .val (.int n), .val (mxD (if m % 2 = 1 then mxMul p X B else X)), .val (mxD B), .val (.int m), .un, .un]) (st_if (x := decide (m % 2 = 1)) (eb_test (ev_eqI (ev_mod (by decide) (ev_var rfl) ev_int) ev_int)) (fun z => ?_) fun z => ?_) (st_par (c1 := .val (mxD (mxMul p B B))) (c2 := .val (.int (m / 2))) (em_v (ev_call (ea3 (ev_var rfl) (ev_var rfl) (ev_var rfl)) ⟨p, g, B, B, rfl, pm, hg, hB, hB, rfl⟩)) (em_v (ev_fdiv (by unfold CDiv; omega) (ev_var rfl) ev_int)) (fun z => nomatch z) (fun z => nomatch z) (by decide))), ⟨by show 0 ≤ m / 2; omega, ?_, mul_ok hp hB hB⟩, by show (m / 2).toNat < m.toNat; omega⟩
      · have z' : m % 2 = 1 := by simpa using z
        rw [if_pos z']
        exact st_set (ev_call (ea3 (ev_var rfl) (ev_var rfl) (ev_var rfl)) ⟨p, g, X, B, rfl, pm, hg, hX, hB, rfl⟩)
      · have z' : ¬ m % 2 = 1 := by simpa using z
        rw [if_neg z']
        exact st_nil
      · show MxOk p g (if m % 2 = 1 then mxMul p X B else X)
        split
        · exact hXB
        · exact hX
    exact st_ret (ev_var rfl)
abbrev s_matrix_of : Stmt := top 45
abbrev nm_matrix_of : List Str := ["curve", "p", "genus", "power", "found", "low", "places", "high", "place"]
theorem sc_matrix_of : FnScope nm_matrix_of ["curve"] (defScope s_matrix_of) := ⟨rfl, rfl, rfl, by decide +kernel, rfl, by decide +kernel, by decide +kernel⟩
theorem ok_matrix_of (fx : Fx K mg) (c_power_of : Cal P w K mg base 3 "power_of" (spD K p_power_of) []) (m_Curve_prime : Met P w K mg base 1 (He.ga K "Curve") "prime" (spD K (p_Curve_prime K)) []) (m_Curve_genus : Met P w K mg base 1 (He.ga K "Curve") "genus" (spD K (p_Curve_genus K)) []) (m_Curve_polynomial : Met P w K mg base 1 (He.ga K "Curve") "polynomial" (spD K (p_Curve_polynomial K)) []) (F : FunD K "matrix_of" "matrix_of" (defArgs s_matrix_of) (defBody s_matrix_of) (defScope s_matrix_of) [] [] f fd) : FnOk P w K mg base CX0 4 f fd ["curve"] (spX K (p_matrix_of K)) := by
  refine F.ok sc_matrix_of ?_ (fun cdv A outer s H vs Q E hr h => ⟨_, PSs.nox ((pss_cons (ps_asg (pe_tup (pa_cons (pe_mt0 m_Curve_prime hr (by decide) (pv 0)) (pa_cons (pe_mt0 m_Curve_genus hr (by decide) (pv 0)) pa_nil))) (pgt (n := 2) K rfl (pgs_cons (pg_name (i := 1) sc_matrix_of.nd rfl (by first | exact Or.inl rfl | exact Or.inr rfl)) (pgs_cons (pg_name (i := 2) sc_matrix_of.nd rfl (by first | exact Or.inl rfl | exact Or.inr rfl)) pgs_nil))))
      (pss_cons (ps_set (i := 3) sc_matrix_of.nd rfl (by first | exact Or.inl rfl | exact Or.inr rfl) (pe_c c_power_of hr (by decide) rfl (pa_cons (pv 1) (pa_cons (pe_mt0 m_Curve_polynomial hr (by decide) (pv 0)) (pa_cons (pe_op op_fdiv (pe_op op_sub (pv 1) pe_int) pe_int) pa_nil)))))
      (pss_cons (ps_set (i := 4) sc_matrix_of.nd rfl (by first | exact Or.inl rfl | exact Or.inr rfl) (pe_lst pa_nil))
      (pss_cons (ps_for PassesOwn.never rfl (pi_range1 (by rfl) fx.b_range (pa_cons (pv 2) pa_nil)) (pg_name (i := 5) sc_matrix_of.nd rfl (by first | exact Or.inl rfl | exact Or.inr rfl))
      (pss_cons (ps_setLc (i := 6) (own := [("high", 7)]) rfl sc_matrix_of.nd rfl rfl (sw_true rfl rfl rfl (by decide +kernel)) (pi_range1 (by rfl) fx.b_range (pa_cons (pv 2) pa_nil)) (blkOk_by (N := nm_matrix_of) (sc := defScope s_matrix_of) (by decide +kernel)) (fun _ _ _ _ _ => (pg_name (i := 7) sc_matrix_of.nd rfl (by first | exact Or.inl rfl | exact Or.inr rfl))) (fun _ _ _ _ _ => pts_nil) (fun _ _ _ _ _ => (pe_op op_sub (pe_op op_sub (pe_op op_mul (pv 1) (pe_op op_add (pv 7) pe_int)) (pv 5)) pe_int)))
      (pss_one (ps_expr (pe_bm PySem.F.plainAttrs_list PySem.F.slot_list_append PySem.F.type_list_append mt_append (pv 4) (pa_cons (pe_lc (own := [("place", 8)]) rfl sc_matrix_of.nd (pil K (pv 6)) (blkOk_by (N := nm_matrix_of) (sc := defScope s_matrix_of) (by decide +kernel)) (fun _ _ _ _ _ => (pg_name (i := 8) sc_matrix_of.nd rfl (by first | exact Or.inl rfl | exact Or.inr rfl))) (fun _ _ _ _ _ => pts_nil) (fun _ _ _ _ _ => (pe_ifExp (pt_cmpR op_lt (pv 8) (pe_callB (lenS K) (by rfl) fx.b_len (by decide +kernel) (pa_cons (pv 3) pa_nil)) (nomark _)) (pe_ix (ixl K) (pv 3) (pv 8) (fun _ _ => rfl)) pe_int))) pa_nil))))))
      (pss_one (ps_ret (pv 4)))))))), ?_⟩)
  · exact spX_len (n := 1) (by rintro ds d ⟨_, rfl, _⟩; rfl)
  · obtain ⟨F1, ds, es0, sf, r, ⟨c, rfl, cv, rfl⟩, q⟩ := h
    have sk := sok0 (N := nm_matrix_of) sf r
    have hLM : LM = 1000000 := rfl
    have hp := cv.pos
    have hpl := cv.pm.le
    have hpg := cv.pm.ge
    obtain ⟨hlen, hg3⟩ := gs_len cv
    have hgs : (((c.2.length : Int) - 2) / 2) = (gs c : Int) := by omega
    have hpw := ppow_len (p := c.1) (a := c.2) (n := ((c.1 - 1) / 2).toNat)
    have hpw2 : ((c.1 - 1) / 2).toNat * c.2.length ≤ 6 * 8 := Nat.mul_le_mul (by omega) cv.len
    refine st_nx sk (st_parT (i := 1) (j := 2) (c1 := .val (.int c.1)) (c2 := .val (.int (gs c))) (em_v (ev_meth (C := He.ga K "Curve") (by decide +kernel) (ev_var (i := 0) rfl) ea_nil ⟨c, rfl, trivial, rfl⟩)) (em_v (ev_meth (C := He.ga K "Curve") (by decide +kernel) (ev_var (i := 0) rfl) ea_nil ⟨c, rfl, by omega, by rw [hgs]⟩)) (fun h => nomatch h) (fun h => nomatch h)) fun σ1 F2 H2 s1 f1 => ?_
    refine st_nx s1 (st_set (i := 3) (ev_call (ea3 (ev_var (i := 1) rfl) (ev_meth (C := He.ga K "Curve") (by decide +kernel) (ev_var (i := 0) rfl) ea_nil ⟨c, rfl, trivial, rfl⟩) (ev_fdiv (by unfold CDiv; omega) (ev_sub (ev_var (i := 1) rfl) ev_int) ev_int)) ⟨c.1, c.2, (c.1 - 1) / 2, rfl, hp, hpl, by omega, by omega, Nat.le_trans hpw2 (by decide), by omega, rfl⟩)) fun σ2 F3 H3 s2 f2 => ?_
    refine st_nx s2 (st_setN (i := 4) en_lst0) fun σ3 F4 H4 s3 f3 => ?_
    show (_ : TS) _ σ3 H4
    refine st_forX (S := Mat) (as := rangeI 0 (gs c)) (enc := D.int) (j := 4) (Gs := fun X => [.val (cvD K c), .val (.int c.1), .val (.int (gs c)), .val (inD (powH c)), .own (X.map inD), .un, .un, .un, .un]) (step := fun X low => X ++ [lineL c low]) (s0 := []) (xs0 := []) (it_rng1 (n := gs c) (by omega) (ev_var rfl)) (fun s => ⟨_, rfl⟩) (fun pre low post e => ⟨_, _, tg_name, by decide, fun F0 H0 F H σ E s hx q => ?_⟩) s3 (xf_nil (i := 4) rfl s3) fun σ' F' H' s' f' x' => ?_
    · obtain ⟨ep, el, hk⟩ := rangeI_pre e
      have hX : (pre.foldl (fun X low => X ++ [lineL c low]) ([] : Mat)).length = pre.length := by rw [foldl_app]; simp
      have hXl : ∀ x ∈ (pre.foldl (fun X low => X ++ [lineL c low]) ([] : Mat)).map inD, ∃ l, x = D.lst l := fun x hx => by
        obtain ⟨l, _, rfl⟩ := List.mem_map.mp hx
        exact ⟨_, rfl⟩
      generalize pre.foldl (fun X low => X ++ [lineL c low]) ([] : Mat) = X at hX hXl s q
      have hlow : 0 ≤ low ∧ low < gs c := by omega
      have hout : ∀ z : Int, ¬ z < ((powH c).length : Int) → 0 = cf (powH c) z.toNat := fun z h => (cf_out (by omega)).symm
      have hpos : ∀ x ∈ (rangeI 0 (gs c)).map (fun high : Int => c.1 * (high + 1) - low - 1), 0 ≤ x := fun x hx => by
        obtain ⟨hi, hm, rfl⟩ := List.mem_map.mp hx
        have := rangeI_mem hm
        have h1 := Int.mul_nonneg (by omega : 0 ≤ c.1) (by omega : 0 ≤ hi)
        rw [Int.mul_add, Int.mul_one]
        omega
      show (_ : TS) _ σ H
      refine set_X (i := 4) (k := 6) (by decide) (ev_pub (en_lcT D.int (fun high : Int => c.1 * (high + 1) - low - 1) (by rw [rangeI_len]; exact LMs (by omega)) (it_rng1 (n := gs c) (by omega) (ev_var (i := 2) rfl)) fun pre2 high post2 e2 => ⟨_, _, tg_name, fun _ h => h, ev_sub (ev_sub (ev_mulS (.inl (by omega)) (ev_var rfl) (ev_add (ev_var rfl) ev_int)) (ev_var rfl)) ev_int⟩)) s hx fun v F1 H1 s1 f1 x1 => ?_
      refine app_X (i := 4) (xs := X.map inD) rfl (by rw [List.length_map]; show X.length < sizeLine; exact Nat.lt_of_lt_of_le (by omega : X.length < 4) (by decide)) hXl (en_lcT (as := (rangeI 0 (gs c)).map fun high : Int => c.1 * (high + 1) - low - 1) (enc := D.int) D.int (fun place : Int => cf (powH c) place.toNat) (by rw [List.length_map, rangeI_len]; exact LMs (by omega)) (it_list (ev_var (i := 6) rfl)) fun pre2 place post2 e2 => ⟨_, _, tg_name, fun _ h => h, ev_if (x := decide (place < ((powH c).length : Int))) (eb_test (ev_lt (ev_var rfl) (ev_lenL (as := powH c) (enc := D.int) (ev_var (i := 3) rfl).h))) (fun z => ev_ixI (l := powH c) (j := place) (hpos place (mem_mid e2)) (by simpa using z) (ev_var (i := 3) rfl) (ev_var rfl)) fun z => ev_int.cast (congrArg D.int (hout place (by simpa using z)))⟩) s1 x1 fun F2 H2 s2 f2 x2 => ?_
      refine q _ F2 H2 ?_ (f1.trans f2) x2
      have e5 : ((rangeI 0 (gs c)).map fun high : Int => c.1 * (high + 1) - low - 1).map (fun place : Int => cf (powH c) place.toNat) = lineL c low := by
        rw [List.map_map]; rfl
      have e4 : X.map inD ++ [D.lst ((((rangeI 0 (gs c)).map fun high : Int => c.1 * (high + 1) - low - 1).map fun place : Int => cf (powH c) place.toNat).map D.int)] = (X ++ [lineL c low]).map inD := by
        rw [e5, List.map_append]; rfl
      rw [e4] at s2
      refine SOk.weak s2 ?_
      exact .eq (.eq (.eq (.eq (.eq (.un (.un (.eq (.eq .nil))))))))
    · rw [foldl_app] at s'
      exact ret_X (i := 4) rfl s' x' fun p us st h0 hf hp rr fr => q p us _ _ st h0 hf hp rr fr
abbrev s_rank_of : Stmt := top 46
abbrev nm_rank_of : List Str := ["p", "lines", "left", "found", "column", "picks", "back", "at", "by", "line", "low", "high"]
theorem sc_rank_of : FnScope nm_rank_of ["p", "lines"] (defScope s_rank_of) := ⟨rfl, rfl, rfl, by decide +kernel, rfl, by decide +kernel, by decide +kernel⟩
theorem ok_rank_of (fx : Fx K mg) (c_inverse : Cal P w K mg base 1 "inverse" (spD K p_inverse) []) (F : FunD K "rank_of" "rank_of" (defArgs s_rank_of) (defBody s_rank_of) (defScope s_rank_of) [] [] f fd) : FnOk P w K mg base CX0 2 f fd ["p", "lines"] (spD K p_rank_of) := by
  refine F.ok sc_rank_of (spD_len (n := 2) ?_) (fun cdv A outer s H vs Q E hr h => ⟨_, PSs.nox ((pss_cons (ps_asg (pe_tup (pa_cons (pe_lc (own := [("line", 9)]) rfl sc_rank_of.nd (pil K (pv 1)) (blkOk_by (N := nm_rank_of) (sc := defScope s_rank_of) (by decide +kernel)) (fun _ _ _ _ _ => (pg_name (i := 9) sc_rank_of.nd rfl (by first | exact Or.inl rfl | exact Or.inr rfl))) (fun _ _ _ _ _ => pts_nil) (fun _ _ _ _ _ => (pe_callTy (lstOf K) (by rfl) fx.b_list (by decide +kernel) (pa_cons (pv 9) pa_nil)))) (pa_cons pe_int pa_nil))) (pgt (n := 2) K rfl (pgs_cons (pg_name (i := 2) sc_rank_of.nd rfl (by first | exact Or.inl rfl | exact Or.inr rfl)) (pgs_cons (pg_name (i := 3) sc_rank_of.nd rfl (by first | exact Or.inl rfl | exact Or.inr rfl)) pgs_nil))))
      (pss_cons (ps_for PassesOwn.never rfl (pi_range1 (by rfl) fx.b_range (pa_cons (pe_ifExp (pt_cmpR (opNe K hr.units) (pv 2) (pe_lst pa_nil) (nomark _)) (pe_callB (lenS K) (by rfl) fx.b_len (by decide +kernel) (pa_cons (pe_ix (ixl K) (pv 2) pe_int (fun _ _ => rfl)) pa_nil)) pe_int) pa_nil)) (pg_name (i := 4) sc_rank_of.nd rfl (by first | exact Or.inl rfl | exact Or.inr rfl))
      (pss_cons (ps_setLc (i := 5) (own := [("at", 7)]) rfl sc_rank_of.nd rfl rfl (sw_true rfl rfl rfl (by decide +kernel)) (pi_range2 (by rfl) fx.b_range (pa_cons (pv 3) (pa_cons (pe_callB (lenS K) (by rfl) fx.b_len (by decide +kernel) (pa_cons (pv 2) pa_nil)) pa_nil))) (blkOk_by (N := nm_rank_of) (sc := defScope s_rank_of) (by decide +kernel)) (fun _ _ _ _ _ => (pg_name (i := 7) sc_rank_of.nd rfl (by first | exact Or.inl rfl | exact Or.inr rfl))) (fun _ _ _ _ _ => (pts_one (pt_cmpR op_ne (pe_ix (ixl K) (pe_ix (ixl K) (pv 2) (pv 7) (fun _ _ => rfl)) (pv 4) (fun _ _ => rfl)) pe_int (nomark _)))) (fun _ _ _ _ _ => (pv 7)))
      (pss_one (ps_if (pt_cmpR (opNe K hr.units) (pv 5) (pe_lst pa_nil) (nomark _)) (pss_cons (ps_asg (pe_tup (pa_cons (pe_ix (ixl K) (pv 2) (pe_ix (ixl K) (pv 5) pe_int (fun _ _ => rfl)) (fun _ _ => rfl)) (pa_cons (pe_ix (ixl K) (pv 2) (pv 3) (fun _ _ => rfl)) pa_nil))) (pgt (n := 2) K rfl (pgs_cons (pg_sub (pv 2) (pv 3) set_list) (pgs_cons (pg_sub (pv 2) (pe_ix (ixl K) (pv 5) pe_int (fun _ _ => rfl)) set_list) pgs_nil))))
      (pss_cons (ps_set (i := 6) sc_rank_of.nd rfl (by first | exact Or.inl rfl | exact Or.inr rfl) (pe_c c_inverse hr (by decide) rfl (pa_cons (pv 0) (pa_cons (pe_ix (ixl K) (pe_ix (ixl K) (pv 2) (pv 3) (fun _ _ => rfl)) (pv 4) (fun _ _ => rfl)) pa_nil))))
      (pss_cons (ps_for PassesOwn.never rfl (pi_range2 (by rfl) fx.b_range (pa_cons (pe_op op_add (pv 3) pe_int) (pa_cons (pe_callB (lenS K) (by rfl) fx.b_len (by decide +kernel) (pa_cons (pv 2) pa_nil)) pa_nil))) (pg_name (i := 7) sc_rank_of.nd rfl (by first | exact Or.inl rfl | exact Or.inr rfl))
      (pss_cons (ps_set (i := 8) sc_rank_of.nd rfl (by first | exact Or.inl rfl | exact Or.inr rfl) (pe_op op_mod (pe_op op_mul (pe_ix (ixl K) (pe_ix (ixl K) (pv 2) (pv 7) (fun _ _ => rfl)) (pv 4) (fun _ _ => rfl)) (pv 6)) (pv 0)))
      (pss_one (ps_asg (pe_lc (own := [("low", 10), ("high", 11)]) rfl sc_rank_of.nd (pizipS K (by rfl) fx.b_zip (pa_cons (pe_ix (ixl K) (pv 2) (pv 7) (fun _ _ => rfl)) (pa_cons (pe_ix (ixl K) (pv 2) (pv 3) (fun _ _ => rfl)) pa_nil)) (pk_cons pe_bl pk_nil)) (blkOk_by (N := nm_rank_of) (sc := defScope s_rank_of) (by decide +kernel)) (fun _ _ _ _ _ => (pgt (n := 2) K rfl (pgs_cons (pg_name (i := 10) sc_rank_of.nd rfl (by first | exact Or.inl rfl | exact Or.inr rfl)) (pgs_cons (pg_name (i := 11) sc_rank_of.nd rfl (by first | exact Or.inl rfl | exact Or.inr rfl)) pgs_nil)))) (fun _ _ _ _ _ => pts_nil) (fun _ _ _ _ _ => (pe_op op_mod (pe_op op_sub (pv 10) (pe_op op_mul (pv 8) (pv 11))) (pv 0)))) (pg_sub (pv 2) (pv 7) set_list)))))
      (pss_one (ps_set (i := 3) sc_rank_of.nd rfl (by first | exact Or.inl rfl | exact Or.inr rfl) (pe_op op_add (pv 3) pe_int)))))) pss_nil))))
      (pss_one (ps_ret (pv 3)))))), run_def (N := nm_rank_of) (fun ds d p => ?_) vs H Q E h⟩)
  · rintro ds d ⟨_, _, _, rfl, _⟩; rfl
  ·
    obtain ⟨p, g, A, rfl, pm, hg, hA, rfl⟩ := p
    have hLM : LM = 1000000 := rfl
    have hp := pm.pos
    have hAl := hA.ln
    show StD K _ [.val (.int p), .val (mxD A), .un, .un, .un, .un, .un, .un, .un, .un, .un, .un] _
    refine st_seq (st_parT (em_n (en_lcT (as := A) (enc := inD) inD (fun l : List Int => l) (LMs (by omega)) (it_list (ev_var (i := 1) rfl)) fun pre l post e => ⟨_, _, tg_name, fun _ h => h, ev_pub (en_listof (ev_var rfl))⟩)) (em_v ev_int) (fun h => nomatch h) (fun h => nomatch h)) ?_
    rw [List.map_id']
    show StD K _ [.val (.int p), .val (mxD A), .own (A.map inD), .val (.int 0), .un, .un, .un, .un, .un, .un, .un, .un] _
    have h00 : A ≠ [] → 0 < A.length := fun z => List.length_pos_iff.mpr z
    have hr0 : A ≠ [] → ((row A 0).length : Int) = g := fun z => by rw [(hA.row (i := 0) (by have := h00 z; omega)).1]
    have hg0 : A = [] → (0 : Int) = g := fun z => by rw [z] at hAl; rw [← hAl]; rfl
    refine st_seq (st_for (S := Mat × Nat) (as := rangeI 0 g) (enc := D.int) (Gs := fun s => [.val (.int p), .val (mxD A), .own (s.1.map inD), .val (.int s.2), .un, .un, .un, .un, .un, .un, .un, .un]) (step := fun s c => rkStep p s c.toNat) (s0 := (A, 0)) (it_rng1 (n := g) (by omega) (ev_if (x := !decide (A = [])) (eb_test (ev_neL (a := A) (b := []) like_mx (by decide) (eh_own (i := 2) rfl) (eh_pub en_lst0))) (fun z => (ev_lenL (as := row A 0) (enc := D.int) (ev_ixO (i := 2) rfl (at_row (X := A) (by decide) (by have := h00 (by simpa using z); omega)) ev_int).h).cast (by show D.int _ = D.int _; congr 1; exact hr0 (by simpa using z))) (fun z => ev_int.cast (by congr 1; exact hg0 (by simpa using z))))) fun pre c post e => ⟨_, _, tg_name, ?_⟩) ?_
    · obtain ⟨ep, ec, hk⟩ := rangeI_pre e
      rw [ep, rank_fold]
      rw [Int.zero_add] at ec
      generalize pre.length = k at ec hk
      subst ec
      obtain ⟨hX, E, _⟩ := all_ok pm hA k (by omega)
      generalize rkAll p A k = st at hX E
      obtain ⟨X, f⟩ := st
      simp only at hX E
      have hXl := hX.ln
      have hfg := E.fg
      rw [Int.toNat_natCast]
      refine StD.lp ?_
      show StD K _ [.val (.int p), .val (mxD A), .own (X.map inD), .val (.int f), .val (.int k), .un, .un, .un, .un, .un, .un, .un] _
      have cell : ∀ i : Int, (f : Int) ≤ i → i < X.length → (0 : Int) ≤ i ∧ (row X i.toNat).length = g := fun i h1 h2 => ⟨by omega, (hX.row (by omega)).1⟩
      refine st_seq (st_setN (en_lcF D.int (fun i : Int => !decide (cf (row X i.toNat) k = 0)) (fun i : Int => i) (by rw [rangeI_len]; exact LMs (by omega)) (it_rng2 (m := f) (n := X.length) (by omega) (ev_var rfl) (ev_lenL (as := X) (enc := inD) (eh_own (i := 2) rfl))) fun pre2 i post2 e2 => ⟨_, _, tg_name, fun _ h => h, eb_test (ev_neI (ev_ixI (l := row X i.toNat) (j := (k : Int)) (by omega) (by have := rangeI_mem (mem_mid e2); have := (cell i (by omega) (by omega)).2; omega) (ev_ixO (i := 2) rfl (at_row (X := X) (by have := rangeI_mem (mem_mid e2); omega) (by have := rangeI_mem (mem_mid e2); omega)) (ev_var rfl)) (ev_var rfl)) ev_int), fun _ => ev_var rfl⟩)) ?_
      rw [List.map_id', show ((X.length : Int) - (f : Int)).toNat = X.length - f by omega]
      show StD K _ [.val (.int p), .val (mxD A), .own (X.map inD), .val (.int f), .val (.int k), .own ((picks X f k).map D.int), .un, .un, .un, .un, .un, .un] _
      refine st_if (x := !decide (picks X f k = [])) (eb_test (ev_ne0 (eh_own rfl))) (fun z => ?_) fun z => ?_
      rotate_left
      · have hz : picks X f k = [] := by simpa using z
        have e1 : rkStep p (X, f) k = (X, f) := by unfold rkStep; rw [hz]
        rw [e1]
        exact st_nilW (.eq (.eq (.eq (.eq (.un (.un (.eq (.eq (.eq (.eq (.eq (.eq .nil))))))))))))
      obtain ⟨m, r, hz⟩ : ∃ m r, picks X f k = m :: r := by
        cases h : picks X f k with
        | nil => rw [h] at z; simp at z
        | cons m r => exact ⟨m, r, rfl⟩
      obtain ⟨m1, m2, m3⟩ := picks_cons (by omega) hz
      have m0 : 0 ≤ m := by
        have : m ∈ picks X f k := by rw [hz]; exact List.mem_cons_self ..
        have := rangeI_mem (List.mem_filter.mp this).1
        omega
      have e1 : rkStep p (X, f) k = (rkClr p (rkSwap X f m.toNat) f k, f + 1) := by unfold rkStep; rw [hz]
      rw [e1, hz]
      generalize hn : m.toNat = n at m1 m2 m3
      have hm : m = (n : Int) := by omega
      subst hm
      have hfX : f < X.length := by omega
      refine st_seq (st_swap (i := 2) (xs := X.map inD) (x := inD (row X n)) (y := inD (row X f)) (ja := (f : Int)) (jb := (n : Int)) (ka := f) (kb := n) rfl ((ev_ixO (i := 2) rfl (at_row (X := X) (j := (n : Int)) (by omega) (by omega)) (ev_ixIO (l := (n : Int) :: r) (j := 0) rfl (by decide) (by simp) ev_int)).cast (by rw [hn])) ((ev_ixO (i := 2) rfl (at_row (X := X) (j := (f : Int)) (by omega) (by omega)) (ev_var rfl)).cast (by rw [Int.toNat_natCast])) (by rw [ixN_int (by omega) (by rw [List.length_map]; omega), Int.toNat_natCast]) (ev_var rfl) (by rw [ixN_int (by omega) (by rw [List.length_map]; omega), Int.toNat_natCast]) (ev_ixIO (l := (n : Int) :: r) (j := 0) rfl (by decide) (by simp) ev_int)) ?_
      rw [← List.map_set, ← List.map_set]
      have hB := swap_ok hX (i := f) (j := n) (by omega) (by omega)
      have hBf : row (rkSwap X f n) f = row X n := by
        rw [swap_row hfX m2]
        by_cases q : f = n
        · rw [if_pos q, q]
        · rw [if_neg q, if_pos rfl]
      show StD K _ [.val (.int p), .val (mxD A), .own ((rkSwap X f n).map inD), .val (.int f), .val (.int k), .own (((n : Int) :: r).map D.int), .un, .un, .un, .un, .un, .un] _
      generalize rkSwap X f n = B at hB hBf
      have hBl := hB.ln
      have hBc : cf (row B f) k ≠ 0 := by rw [hBf]; exact m3
      have hBb := hB.cell (i := f) (j := k) (by omega) hk
      have hBr := (hB.row (i := f) (by omega)).1
      have hne : cf (row B f) k % p ≠ 0 := by rw [Int.emod_eq_of_lt hBb.1 hBb.2]; exact hBc
      obtain ⟨b1, b2, b3⟩ := pinv_mem pm hne
      refine st_seq (st_set (ev_call (ea2 (ev_var rfl) (ev_ixI (l := row B f) (j := (k : Int)) (by omega) (by omega) ((ev_ixO (i := 2) rfl (at_row (X := B) (j := (f : Int)) (by omega) (by omega)) (ev_var rfl)).cast (by rw [Int.toNat_natCast])) (ev_var rfl))) ⟨p, cf (row B f) k, by rw [Int.toNat_natCast], pm, hne, dig p pm hBb, rfl⟩)) ?_
      show StD K _ [.val (.int p), .val (mxD A), .own (B.map inD), .val (.int f), .val (.int k), .own (((n : Int) :: r).map D.int), .val (.int (pinv p (cf (row B f) k))), .un, .un, .un, .un, .un] _
      rw [← clr_fold (p := p) (c := k) (by omega : f < B.length), show B.length - (f + 1) = ((B.length : Int) - ((f : Int) + 1)).toNat by omega]
      generalize pinv p (cf (row B f) k) = back at b1 b2
      refine st_seq (st_for (S := Mat) (as := rangeI ((f : Int) + 1) ((B.length : Int) - ((f : Int) + 1)).toNat) (enc := D.int) (Gs := fun Y => [.val (.int p), .val (mxD A), .own (Y.map inD), .val (.int f), .val (.int k), .own (((n : Int) :: r).map D.int), .val (.int back), .un, .un, .un, .un, .un]) (step := rkSet p f k back) (s0 := B) (it_rng2 (m := (f : Int) + 1) (n := B.length) (by omega) (ev_add (ev_var rfl) ev_int) (ev_lenL (as := B) (enc := inD) (eh_own (i := 2) rfl))) fun pre3 i post3 e3 => ⟨_, _, tg_name, ?_⟩) ?_
      · obtain ⟨ep3, ei, hk3⟩ := rangeI_pre e3
        obtain ⟨y1, y2⟩ := set_inv (p := p) (B := B) (f := f) (c := k) (back := back) pre3.length (by omega)
        rw [ep3]
        have hY : ∀ i, i < g → (row ((rangeI ((f : Int) + 1) pre3.length).foldl (rkSet p f k back) B) i).length = g := fun i hi => by
          rw [y2 i (by omega)]
          split
          · unfold rsub; rw [mk_len]; exact (hB.row hi).1
          · exact (hB.row hi).1
        generalize (rangeI ((f : Int) + 1) pre3.length).foldl (rkSet p f k back) B = Y at y1 hY
        have hi : f < i.toNat ∧ i.toNat < g ∧ 0 ≤ i ∧ i < g := by omega
        have hYi := hY i.toNat hi.2.1
        have hYf := hY f (by omega)
        refine StD.lp ?_
        show StD K _ [.val (.int p), .val (mxD A), .own (Y.map inD), .val (.int f), .val (.int k), .own (((n : Int) :: r).map D.int), .val (.int back), .val (.int i), .un, .un, .un, .un] _
        refine st_seq (st_set (ev_mod hp (ev_mulS (.inr (by have := pm.le; omega)) (ev_ixI (l := row Y i.toNat) (j := (k : Int)) (by omega) (by omega) (ev_ixO (i := 2) rfl (at_row (X := Y) (j := i) (by omega) (by omega)) (ev_var rfl)) (ev_var rfl)) (ev_var rfl)) (ev_var rfl))) ?_
        rw [Int.toNat_natCast]
        have hb := Int.emod_nonneg (cf (row Y i.toNat) k * back) (by omega : p ≠ 0)
        have hb2 := Int.emod_lt_of_pos (cf (row Y i.toNat) k * back) hp
        unfold rkSet
        rw [← zip_rsub (p := p) (b := cf (row Y i.toNat) k * back) (u := row Y i.toNat) (v := row Y f) (by omega), List.map_set]
        generalize cf (row Y i.toNat) k * back % p = bb at hb hb2
        refine StD.weak (st_setI (i := 2) (k := i.toNat) (j := i) rfl (by rw [ixN_int (by omega) (by rw [List.length_map]; omega)]) (ev_pub (en_lcT D.int (fun q : Int × Int => (q.1 - bb * q.2) % p) (LMs (by rw [List.length_zip]; omega)) (it_zipS (ea := D.int) (eb := D.int) (as := row Y i.toNat) (bs := row Y f) (by omega) (ev_ixO (i := 2) rfl (at_row (X := Y) (j := i) (by omega) (by omega)) (ev_var rfl)) ((ev_ixO (i := 2) rfl (at_row (X := Y) (j := (f : Int)) (by omega) (by omega)) (ev_var rfl)).cast (by rw [Int.toNat_natCast]))) fun pre4 q post4 e4 => ⟨_, _, tg_tup (tgs_cons tg_name (tgs_cons tg_name tgs_nil)) rfl, fun _ h => h, ev_mod hp (ev_sub (ev_var rfl) (ev_mulS (.inl (dig p pm ⟨hb, hb2⟩)) (ev_var rfl) (ev_var rfl))) (ev_var rfl)⟩)) (ev_var rfl)) (.eq (.eq (.eq (.eq (.eq (.eq (.eq (.un (.un (.un (.un (.un .nil))))))))))))
      exact StD.weak (st_set (i := 3) (ev_add (ev_var rfl) ev_int)) (.eq (.eq (.eq (.eq (.un (.un (.un (.un (.un (.un (.un (.un .nil))))))))))))
    rw [rank_fold, show rank p A = (rkAll p A g).2 by unfold rank; rw [hAl]]
    exact st_ret (ev_var rfl)
abbrev s_descent_matrix : Stmt := top 48
abbrev nm_descent_matrix : List Str := ["curve"]
theorem sc_descent_matrix : FnScope nm_descent_matrix ["curve"] (defScope s_descent_matrix) := ⟨rfl, rfl, rfl, by decide +kernel, rfl, by decide +kernel, by decide +kernel⟩
theorem ok_descent_matrix (fx : Fx K mg) (c_check_curve : Cal P w K mg base 1 "check_curve" (spD K (p_check_curve K)) []) (c_matrix_of : Cal P w K mg base 4 "matrix_of" (spX K (p_matrix_of K)) []) (F : FunD K "descent_matrix" "descent_matrix" (defArgs s_descent_matrix) (defBody s_descent_matrix) (defScope s_descent_matrix) [] [] f fd) : FnOk P w K mg base CX0 5 f fd ["curve"] (spX K (p_descent_matrix K)) := by
  refine F.ok sc_descent_matrix ?_ (fun cdv A outer s H vs Q E hr h => ⟨_, PSs.nox ((pss_cons (ps_expr (pe_c c_check_curve hr (by decide) rfl (pa_cons (pv 0) pa_nil)))
      (pss_one (ps_ret (pe_c c_matrix_of hr (by decide) rfl (pa_cons (pv 0) pa_nil)))))), ?_⟩)
  · exact spX_len (n := 1) (by rintro ds d ⟨_, rfl, _⟩; rfl)
  · obtain ⟨F1, ds, es0, sf, r, ⟨c, rfl, cv, rfl⟩, q⟩ := h
    have sk := sok0 (N := nm_descent_matrix) sf r
    refine raw_drop sk (ev_call (ea1 (ev_var (i := 0) rfl)) ⟨c, rfl, trivial, rfl⟩) fun F2 H2 t2 => ?_
    show tCall (spX K (p_matrix_of K)) [] C8.E0 (tCons (tVar 0) tNil) _ H2 Q
    show (tCons (tVar 0) tNil : TA) _ H2 _
    exact ea1 (K := K) (ev_var (i := 0) rfl) _ _ F2 H2 _ (sk.step t2) _ fun vs F3 H3 t3 r3 => ⟨F3, [cvD K c], _, t3.fh, by rw [List.append_nil]; exact r3, ⟨c, rfl, cv, rfl⟩, fun p us F4 H4 t4 h1 h2 h3 r4 fr => q p us F4 H4 ((t2.trans t3).trans t4) ((t2.trans t3).hh.free h1) h2 h3 r4 (fr.mono (t2.trans t3).hh)⟩
abbrev s_standing : Stmt := top 49
abbrev nm_standing : List Str := ["curve"]
theorem sc_standing : FnScope nm_standing ["curve"] (defScope s_standing) := ⟨rfl, rfl, rfl, by decide +kernel, rfl, by decide +kernel, by decide +kernel⟩
theorem ok_standing (fx : Fx K mg) (c_check_curve : Cal P w K mg base 1 "check_curve" (spD K (p_check_curve K)) []) (c_rank_of : Cal P w K mg base 2 "rank_of" (spD K p_rank_of) []) (c_lines_raised : Cal P w K mg base 2 "lines_raised" (spD K p_lines_raised) []) (c_matrix_of : Cal P w K mg base 4 "matrix_of" (spX K (p_matrix_of K)) []) (m_Curve_prime : Met P w K mg base 1 (He.ga K "Curve") "prime" (spD K (p_Curve_prime K)) []) (m_Curve_genus : Met P w K mg base 1 (He.ga K "Curve") "genus" (spD K (p_Curve_genus K)) []) (F : FunD K "standing" "standing" (defArgs s_standing) (defBody s_standing) (defScope s_standing) [] [] f fd) : FnOk P w K mg base CX0 5 f fd ["curve"] (spD K (p_standing K)) := by
  refine F.ok sc_standing (spD_len (n := 1) ?_) (fun cdv A outer s H vs Q E hr h => ⟨_, PSs.nox ((pss_cons (ps_expr (pe_c c_check_curve hr (by decide) rfl (pa_cons (pv 0) pa_nil)))
      (pss_one (ps_ret (pe_c c_rank_of hr (by decide) rfl (pa_cons (pe_mt0 m_Curve_prime hr (by decide) (pv 0)) (pa_cons (pe_c c_lines_raised hr (by decide) rfl (pa_cons (pe_mt0 m_Curve_prime hr (by decide) (pv 0)) (pa_cons (pe_c c_matrix_of hr (by decide) rfl (pa_cons (pv 0) pa_nil)) (pa_cons (pe_mt0 m_Curve_genus hr (by decide) (pv 0)) pa_nil)))) pa_nil))))))), run_def (N := nm_standing) (fun ds d p => ?_) vs H Q E h⟩)
  · rintro ds d ⟨_, rfl, _⟩; rfl
  ·
    obtain ⟨c, rfl, cv, rfl⟩ := p
    have hg := gs_len cv
    have hgs : (((c.2.length : Int) - 2) / 2) = (gs c : Int) := by omega
    have hR := (raised_ok (p := c.1) (g := gs c) (n := gs c) (by have := cv.pm.ge; omega) (by omega) (mat_ok cv)).1
    show StD K _ [.val (cvD K c)] _
    refine st_seq (st_drop (ev_call (ea_cons (ev_var (i := 0) rfl) ea_nil) ⟨_, rfl, (by walk_at "pre"), rfl⟩)) ?_
    exact st_ret (ev_call (ea2 (ev_meth (C := He.ga K "Curve") (by decide +kernel) (ev_var rfl) ea_nil ⟨c, rfl, trivial, rfl⟩) (ev_call (ea3 (ev_meth (C := He.ga K "Curve") (by decide +kernel) (ev_var rfl) ea_nil ⟨c, rfl, trivial, rfl⟩) (ev_pub (en_callX (ea1 (ev_var rfl)) ⟨c, rfl, cv, rfl⟩)) (ev_meth (C := He.ga K "Curve") (by decide +kernel) (ev_var rfl) ea_nil ⟨c, rfl, by omega, by rw [hgs]⟩)) ⟨c.1, gs c, matL c, gs c, rfl, cv.pm, hg.2, mat_ok cv, by omega, by have := hg.2; omega, rfl⟩)) ⟨c.1, gs c, _, rfl, cv.pm, hg.2, hR, rfl⟩)
end
end Cw
set_option maxHeartbeats 4000000
namespace Cw
open PySem PySem.Spec PyProof.Rows L2
open C8 (Cal Met Mak pe_c pe_mk pe_mt pe_mt0 pe_gc InsC call_isC)
section
variable {P : Program} {w : World} {K : Fg} {mg : Str → Option Value} {base : Heap} {f : Addr} {fd : FuncData}
abbrev s__law_matrix : Stmt := top 66
abbrev nm__law_matrix : List Str := ["told", "p", "f", "genus", "power", "found", "low", "places", "high", "place"]
theorem sc__law_matrix : FnScope nm__law_matrix ["told"] (defScope s__law_matrix) := ⟨rfl, rfl, rfl, by decide +kernel, rfl, by decide +kernel, by decide +kernel⟩
theorem ok__law_matrix (fx : Fx K mg) (c__law_power : Cal P w K mg base 3 "_law_power" (spD K p__law_power) []) (F : FunD K "_law_matrix" "_law_matrix" (defArgs s__law_matrix) (defBody s__law_matrix) (defScope s__law_matrix) [] [] f fd) : FnOk P w K mg base CX0 4 f fd ["told"] (spD K p__law_matrix) := by
  refine F.ok sc__law_matrix (spD_len (n := 1) ?_) (fun cdv A outer s H vs Q E hr h => ⟨_, PSs.nox ((pss_cons (ps_asg (pv 0) (pgt (n := 2) K rfl (pgs_cons (pg_name (i := 1) sc__law_matrix.nd rfl (by first | exact Or.inl rfl | exact Or.inr rfl)) (pgs_cons (pg_name (i := 2) sc__law_matrix.nd rfl (by first | exact Or.inl rfl | exact Or.inr rfl)) pgs_nil))))
      (pss_cons (ps_asg (pe_tup (pa_cons (pe_op op_fdiv (pe_op op_sub (pe_callB (lenS K) (by rfl) fx.b_len (by decide +kernel) (pa_cons (pv 2) pa_nil)) pe_int) pe_int) (pa_cons (pe_c c__law_power hr (by decide) rfl (pa_cons (pv 1) (pa_cons (pv 2) (pa_cons (pe_op op_fdiv (pe_op op_sub (pv 1) pe_int) pe_int) pa_nil)))) pa_nil))) (pgt (n := 2) K rfl (pgs_cons (pg_name (i := 3) sc__law_matrix.nd rfl (by first | exact Or.inl rfl | exact Or.inr rfl)) (pgs_cons (pg_name (i := 4) sc__law_matrix.nd rfl (by first | exact Or.inl rfl | exact Or.inr rfl)) pgs_nil))))
      (pss_cons (ps_set (i := 5) sc__law_matrix.nd rfl (by first | exact Or.inl rfl | exact Or.inr rfl) (pe_lst pa_nil))
      (pss_cons (ps_for PassesOwn.never rfl (pi_range1 (by rfl) fx.b_range (pa_cons (pv 3) pa_nil)) (pg_name (i := 6) sc__law_matrix.nd rfl (by first | exact Or.inl rfl | exact Or.inr rfl))
      (pss_cons (ps_setLc (i := 7) (own := [("high", 8)]) rfl sc__law_matrix.nd rfl rfl (sw_true rfl rfl rfl (by decide +kernel)) (pi_range1 (by rfl) fx.b_range (pa_cons (pv 3) pa_nil)) (blkOk_by (N := nm__law_matrix) (sc := defScope s__law_matrix) (by decide +kernel)) (fun _ _ _ _ _ => (pg_name (i := 8) sc__law_matrix.nd rfl (by first | exact Or.inl rfl | exact Or.inr rfl))) (fun _ _ _ _ _ => pts_nil) (fun _ _ _ _ _ => (pe_op op_sub (pe_op op_sub (pe_op op_mul (pv 1) (pe_op op_add (pv 8) pe_int)) (pv 6)) pe_int)))
      (pss_one (ps_expr (pe_bm PySem.F.plainAttrs_list PySem.F.slot_list_append PySem.F.type_list_append mt_append (pv 5) (pa_cons (pe_lc (own := [("place", 9)]) rfl sc__law_matrix.nd (pil K (pv 7)) (blkOk_by (N := nm__law_matrix) (sc := defScope s__law_matrix) (by decide +kernel)) (fun _ _ _ _ _ => (pg_name (i := 9) sc__law_matrix.nd rfl (by first | exact Or.inl rfl | exact Or.inr rfl))) (fun _ _ _ _ _ => pts_nil) (fun _ _ _ _ _ => (pe_ifExp (pt_cmpR op_lt (pv 9) (pe_callB (lenS K) (by rfl) fx.b_len (by decide +kernel) (pa_cons (pv 4) pa_nil)) (nomark _)) (pe_ix (ixl K) (pv 4) (pv 9) (fun _ _ => rfl)) pe_int))) pa_nil))))))
      (pss_one (ps_ret (pv 5)))))))), run_def (N := nm__law_matrix) (fun ds d p => ?_) vs H Q E h⟩)
  · rintro ds d ⟨_, rfl, _⟩; rfl
  ·
    obtain ⟨c, rfl, cv, rfl⟩ := p
    have hLM : LM = 1000000 := rfl
    have hp := cv.pos
    have hpl := cv.pm.le
    have hpg := cv.pm.ge
    obtain ⟨hlen, hg3⟩ := gs_len cv
    have hgs : (((c.2.length : Int) - 2) / 2) = (gs c : Int) := by omega
    have hpw := ppow_len (p := c.1) (a := c.2) (n := ((c.1 - 1) / 2).toNat)
    have hpw2 : ((c.1 - 1) / 2).toNat * c.2.length ≤ 6 * 8 := Nat.mul_le_mul (by omega) cv.len
    show StD K _ [.val (toldD c), .un, .un, .un, .un, .un, .un, .un, .un, .un] _
    refine st_seq (st_asg (ev_var (i := 0) rfl) (tg_tup (tgs_cons tg_name (tgs_cons tg_name tgs_nil)) rfl)) ?_
    show StD K _ [.val (toldD c), .val (.int c.1), .val (inD c.2), .un, .un, .un, .un, .un, .un, .un] _
    refine st_seq (st_parT (c1 := .val (.int (gs c))) (c2 := .val (inD (powH c))) (em_v ((ev_fdiv (by unfold CDiv; decide) (ev_sub (ev_lenL (as := c.2) (enc := D.int) (ev_var (i := 2) rfl).h) ev_int) ev_int).cast (by rw [hgs]))) (em_v (ev_call (ea3 (ev_var rfl) (ev_var rfl) (ev_fdiv (by unfold CDiv; omega) (ev_sub (ev_var rfl) ev_int) ev_int)) ⟨c.1, c.2, (c.1 - 1) / 2, rfl, hp, hpl, by omega, by omega, Nat.le_trans hpw2 (by decide), by omega, rfl⟩)) (fun h => nomatch h) (fun h => nomatch h)) ?_
    refine st_seq (st_setN (i := 5) en_lst0) ?_
    show StD K _ [.val (toldD c), .val (.int c.1), .val (inD c.2), .val (.int (gs c)), .val (inD (powH c)), .own [], .un, .un, .un, .un] _
    refine st_seq (st_for (S := Mat) (as := rangeI 0 (gs c)) (enc := D.int) (Gs := fun X => [.val (toldD c), .val (.int c.1), .val (inD c.2), .val (.int (gs c)), .val (inD (powH c)), .own (X.map inD), .un, .un, .un, .un]) (step := fun X low => X ++ [lineL c low]) (s0 := []) (it_rng1 (n := gs c) (by omega) (ev_var rfl)) fun pre low post e => ⟨_, _, tg_name, ?_⟩) ?_
    · obtain ⟨ep, el, hk⟩ := rangeI_pre e
      have hX : (pre.foldl (fun X low => X ++ [lineL c low]) ([] : Mat)).length = pre.length := by rw [foldl_app]; simp
      generalize pre.foldl (fun X low => X ++ [lineL c low]) ([] : Mat) = X at hX ⊢
      have hlow : 0 ≤ low ∧ low < gs c := by omega
      have hout : ∀ z : Int, ¬ z < ((powH c).length : Int) → 0 = cf (powH c) z.toNat := fun z h => (cf_out (by omega)).symm
      have hpos : ∀ x ∈ (rangeI 0 (gs c)).map (fun high : Int => c.1 * (high + 1) - low - 1), 0 ≤ x := fun x hx => by
        obtain ⟨hi, hm, rfl⟩ := List.mem_map.mp hx
        have := rangeI_mem hm
        have h1 := Int.mul_nonneg (by omega : 0 ≤ c.1) (by omega : 0 ≤ hi)
        rw [Int.mul_add, Int.mul_one]
        omega
      have e5 : ((rangeI 0 (gs c)).map fun high : Int => c.1 * (high + 1) - low - 1).map (fun place : Int => cf (powH c) place.toNat) = lineL c low := by
        rw [List.map_map]; rfl
      refine StD.lp (st_seq (st_set (i := 7) (ev_pub (en_lcT D.int (fun high : Int => c.1 * (high + 1) - low - 1) (by rw [rangeI_len]; exact LMs (by omega)) (it_rng1 (n := gs c) (by omega) (ev_var (i := 3) rfl)) fun pre2 high post2 e2 => ⟨_, _, tg_name, fun _ h => h, ev_sub (ev_sub (ev_mulS (.inl (by omega)) (ev_var rfl) (ev_add (ev_var rfl) ev_int)) (ev_var rfl)) ev_int⟩))) ?_)
      refine StD.weak (st_appT (enc := inD) (i := 5) (l := X) (x := lineL c low) rfl (by omega) ((ev_pub (en_lcT (as := (rangeI 0 (gs c)).map fun high : Int => c.1 * (high + 1) - low - 1) (enc := D.int) D.int (fun place : Int => cf (powH c) place.toNat) (by rw [List.length_map, rangeI_len]; exact LMs (by omega)) (it_list (ev_var (i := 7) rfl)) fun pre2 place post2 e2 => ⟨_, _, tg_name, fun _ h => h, ev_if (x := decide (place < ((powH c).length : Int))) (eb_test (ev_lt (ev_var rfl) (ev_lenL (as := powH c) (enc := D.int) (ev_var (i := 4) rfl).h))) (fun z => ev_ixI (l := powH c) (j := place) (hpos place (mem_mid e2)) (by simpa using z) (ev_var (i := 4) rfl) (ev_var rfl)) fun z => ev_int.cast (congrArg D.int (hout place (by simpa using z)))⟩)).cast (by rw [e5]))) (.eq (.eq (.eq (.eq (.eq (.eq (.un (.un (.eq (.eq .nil))))))))))
    rw [foldl_app]
    exact st_retO rfl
abbrev s__law_brought : Stmt := top 67
abbrev nm__law_brought : List Str := ["told", "lines", "numbers", "number", "line", "at"]
theorem sc__law_brought : FnScope nm__law_brought ["told", "lines", "numbers"] (defScope s__law_brought) := ⟨rfl, rfl, rfl, by decide +kernel, rfl, by decide +kernel, by decide +kernel⟩
theorem ok__law_brought (fx : Fx K mg) (F : FunD K "_law_brought" "_law_brought" (defArgs s__law_brought) (defBody s__law_brought) (defScope s__law_brought) [] [] f fd) : FnOk P w K mg base CX0 1 f fd ["told", "lines", "numbers"] (spD K p__law_brought) := by
  refine F.ok sc__law_brought (spD_len (n := 3) ?_) (fun cdv A outer s H vs Q E hr h => ⟨_, PSs.nox ((pss_one (ps_ret (pe_lc (own := [("at", 5)]) rfl sc__law_brought.nd (pi_range1 (by rfl) fx.b_range (pa_cons (pe_callB (lenS K) (by rfl) fx.b_len (by decide +kernel) (pa_cons (pv 1) pa_nil)) pa_nil)) (blkOk_by (N := nm__law_brought) (sc := defScope s__law_brought) (by decide +kernel)) (fun _ _ _ _ _ => (pg_name (i := 5) sc__law_brought.nd rfl (by first | exact Or.inl rfl | exact Or.inr rfl))) (fun _ _ _ _ _ => pts_nil) (fun _ _ _ _ _ => (pe_op op_mod (pe_callTy call_int1 (by rfl) fx.b_int (by decide +kernel) (pa_cons (pe_callB (sumS K rfl) (by rfl) fx.b_sum (by decide +kernel) (pa_cons (pe_lc (own := [("number", 3), ("line", 4)]) rfl sc__law_brought.nd (pizip K (by rfl) fx.b_zip (pa_cons (pv 2) (pa_cons (pv 1) pa_nil))) (blkOk_by (by kernel_rfl)) (fun _ _ _ _ _ => (pgt (n := 2) K rfl (pgs_cons (pg_name (i := 3) sc__law_brought.nd rfl (by first | exact Or.inl rfl | exact Or.inr rfl)) (pgs_cons (pg_name (i := 4) sc__law_brought.nd rfl (by first | exact Or.inl rfl | exact Or.inr rfl)) pgs_nil)))) (fun _ _ _ _ _ => pts_nil) (fun _ _ _ _ _ => (pe_op op_mul (pv 3) (pe_ix (ixl K) (pv 4) (pv 5) (fun _ _ => rfl))))) pa_nil)) pa_nil)) (pe_ix (ixt K) (pv 0) pe_int (fun _ _ => rfl)))))))), run_def (N := nm__law_brought) (fun ds d p => ?_) vs H Q E h⟩)
  · rintro ds d ⟨_, _, _, _, rfl, _⟩; rfl
  ·
    obtain ⟨c, g, A, n, rfl, pm, hg, hA, hn, hb, rfl⟩ := p
    have hLM : LM = 1000000 := rfl
    have hp := pm.pos
    have hAl := hA.ln
    show StD K _ [.val (toldD c), .val (mxD A), .val (inD n), .un, .un, .un] _
    exact st_ret (ev_pub (en_lcT D.int (fun j : Int => ((n.zip A).map fun q : Int × List Int => q.1 * cf q.2 j.toNat).sum % c.1) (by rw [rangeI_len]; exact LMs (by omega)) (it_rng1 (n := A.length) (by omega) (ev_lenL (as := A) (enc := inD) (ev_var (i := 1) rfl).h)) fun pre j post e => ⟨_, _, tg_name, fun _ h => h, ev_mod hp (ev_intc (ev_cb (ea1 (ev_pub (en_lcT D.int (fun q : Int × List Int => q.1 * cf q.2 j.toNat) (LMs (by rw [List.length_zip]; omega)) (it_zip (ea := D.int) (eb := inD) (as := n) (bs := A) (ev_var (i := 2) rfl) (ev_var (i := 1) rfl)) fun pre2 q post2 e2 => ⟨_, _, tg_tup (tgs_cons tg_name (tgs_cons tg_name tgs_nil)) rfl, fun _ h => h, ev_mulS (.inl (dig c.1 pm (hb _ (List.of_mem_zip (mem_mid e2)).1))) (ev_var rfl) (ev_ixI (l := q.2) (j := j) (by have := rangeI_mem (mem_mid e); omega) (by have := rangeI_mem (mem_mid e); have := hA.rl _ (List.of_mem_zip (mem_mid e2)).2; omega) (ev_var rfl) (ev_var rfl))⟩))) oa_sum)) (ev_tix0 (ev_var rfl))⟩))
abbrev s__law_told : Stmt := top 69
abbrev nm__law_told : List Str := ["told", "numbers"]
theorem sc__law_told : FnScope nm__law_told ["told", "numbers"] (defScope s__law_told) := ⟨rfl, rfl, rfl, by decide +kernel, rfl, by decide +kernel, by decide +kernel⟩
theorem ok__law_told (fx : Fx K mg) (c__law_of : Cal P w K mg base 9 "_law_of" (spD K (p__law_of K)) []) (c__law_trim : Cal P w K mg base 1 "_law_trim" (spD K p__law_trim) []) (m_Function : Mak P w K mg base 7 "Function" (He.ga K "Function") (spI K (He.ga K "Function") (p_Function___init__ K)) []) (F : FunD K "_law_told" "_law_told" (defArgs s__law_told) (defBody s__law_told) (defScope s__law_told) [] [] f fd) : FnOk P w K mg base CX0 10 f fd ["told", "numbers"] (spD K (p__law_told K)) := by
  refine F.ok sc__law_told (spD_len (n := 2) ?_) (fun cdv A outer s H vs Q E hr h => ⟨_, PSs.nox ((pss_one (ps_ret (pe_mk m_Function hr (by decide) rfl (pa_cons (pe_c c__law_of hr (by decide) rfl (pa_cons (pv 0) pa_nil)) (pa_cons (pe_lst pa_nil) (pa_cons (pe_c c__law_trim hr (by decide) rfl (pa_cons (pe_ix (ixt K) (pv 0) pe_int (fun _ _ => rfl)) (pa_cons (pv 1) pa_nil))) (pa_cons (pe_callTy (lstOf K) (by rfl) fx.b_list (by decide +kernel) (pa_cons (pe_ix (ixt K) (pv 0) pe_int (fun _ _ => rfl)) pa_nil)) pa_nil)))))))), run_def (N := nm__law_told) (fun ds d p => ?_) vs H Q E h⟩)
  · rintro ds d ⟨_, _, rfl, _⟩; rfl
  ·
    obtain ⟨c, n, rfl, cv, hn, rfl⟩ := p
    have hp := cv.pos
    have hl := trim_len (p := c.1) (l := n)
    have hLM : LM = 1000000 := rfl
    have hf := cv.len
    show StD K _ [.val (toldD c), .val (inD n)] _
    exact st_ret (ev_make (ea4 (ev_call (ea1 (ev_var rfl)) ⟨c, rfl, cv, rfl⟩) (ev_pub en_lst0) (ev_call (ea2 (ev_tix0 (ev_var rfl)) (ev_var rfl)) ⟨c.1, n, rfl, hp, by omega, rfl⟩) (ev_pub (en_listof (ev_tix1 (ev_var rfl))))) ⟨c, [], trim c.1 n, c.2, rfl, ⟨cv, nrm_nil, trim_nrm hp _, cv.nr, cv.ne, by simp, by omega, by omega⟩, rfl⟩)
end
end Cw
set_option maxHeartbeats 4000000
namespace Cw
open PySem PySem.Spec PyProof.Rows L2
open C8 (Cal Met Mak pe_c pe_mk pe_mt pe_mt0 pe_gc InsC call_isC)
section
variable {P : Program} {w : World} {K : Fg} {mg : Str → Option Value} {base : Heap} {f : Addr} {fd : FuncData}
abbrev s__law_whole_space : Stmt := top 68
abbrev nm__law_whole_space : List Str := ["p", "genus", "found", "turn", "longer", "numbers", "number"]
theorem sc__law_whole_space : FnScope nm__law_whole_space ["p", "genus"] (defScope s__law_whole_space) := ⟨rfl, rfl, rfl, by decide +kernel, rfl, by decide +kernel, by decide +kernel⟩
theorem ok__law_whole_space (fx : Fx K mg) (F : FunD K "_law_whole_space" "_law_whole_space" (defArgs s__law_whole_space) (defBody s__law_whole_space) (defScope s__law_whole_space) [] [] f fd) : FnOk P w K mg base CX0 1 f fd ["p", "genus"] (spD K p__law_whole_space) := by
  refine F.ok sc__law_whole_space (spD_len (n := 2) ?_) (fun cdv A outer s H vs Q E hr h => ⟨_, PSs.nox ((pss_cons (ps_set (i := 2) sc__law_whole_space.nd rfl (by first | exact Or.inl rfl | exact Or.inr rfl) (pe_lst (pa_cons (pe_lst pa_nil) pa_nil)))
      (pss_cons (ps_for PassesOwn.never rfl (pi_range1 (by rfl) fx.b_range (pa_cons (pv 1) pa_nil)) (pg_name (i := 3) sc__law_whole_space.nd rfl (by first | exact Or.inl rfl | exact Or.inr rfl))
      (pss_cons (ps_set (i := 4) sc__law_whole_space.nd rfl (by first | exact Or.inl rfl | exact Or.inr rfl) (pe_lst pa_nil))
      (pss_cons (ps_for PassesOwn.never rfl (pil K (pv 2)) (pg_name (i := 5) sc__law_whole_space.nd rfl (by first | exact Or.inl rfl | exact Or.inr rfl))
      (pss_one (ps_set (i := 4) sc__law_whole_space.nd rfl (by first | exact Or.inl rfl | exact Or.inr rfl) (pe_op op_cat (pv 4) (pe_lc (own := [("number", 6)]) rfl sc__law_whole_space.nd (pi_range1 (by rfl) fx.b_range (pa_cons (pv 0) pa_nil)) (blkOk_by (N := nm__law_whole_space) (sc := defScope s__law_whole_space) (by decide +kernel)) (fun _ _ _ _ _ => (pg_name (i := 6) sc__law_whole_space.nd rfl (by first | exact Or.inl rfl | exact Or.inr rfl))) (fun _ _ _ _ _ => pts_nil) (fun _ _ _ _ _ => (pe_op op_cat (pv 5) (pe_lst (pa_cons (pv 6) pa_nil)))))))))
      (pss_one (ps_set (i := 2) sc__law_whole_space.nd rfl (by first | exact Or.inl rfl | exact Or.inr rfl) (pv 4))))))
      (pss_one (ps_ret (pv 2)))))), run_def (N := nm__law_whole_space) (fun ds d p => ?_) vs H Q E h⟩)
  · rintro ds d ⟨_, _, _, rfl, _⟩; rfl
  ·
    obtain ⟨p, genus, r, rfl, h, rfl⟩ := p
    unfold m__law_whole_space at h
    show StD K _ [.val (D.int p), .val (D.int genus), .un, .un, .un, .un, .un] _
    obtain ⟨found1, hfound1, h⟩ := bnd h
    refine st_seq (st_set (i := 2) (EvD.cast (ev_pub (EvN.cast (es := List.map inD [([] : List Int)]) (en_lst (ea_cons (ev_pub (EvN.cast (es := List.map D.int []) en_lst0 rfl)) ea_nil) (by show 1 ≤ sizeLine; decide)) rfl)) (congrArg (lsD inD) (Option.some.inj hfound1)))) ?_
    obtain ⟨r2, hr2, h⟩ := bnd h
    obtain ⟨gr2, er2⟩ := gd_ok hr2
    obtain ⟨t18, ht18, h⟩ := bnd h
    show StD K _ [.val (D.int p), .val (D.int genus), .val (lsD inD found1), .un, .un, .un, .un] _
    refine st_seq (st_foldO (S := (List (List Int))) (enc := D.int) (fun s3 : (List (List Int)) => [.val (D.int p), .val (D.int genus), .val (lsD inD s3), .un, .un, .un, .un]) (itc (it_rng1 gr2 (ev_var (i := 1) rfl)) er2) ht18 (fun s3 x4 _ s5 h => ⟨_, _, tg_name, ?_⟩)) ?_
    · show StD K _ [.val (D.int p), .val (D.int genus), .val (lsD inD s3), .val (D.int x4), .un, .un, .un] _
      obtain ⟨longer6, hlonger6, h⟩ := bnd h
      refine st_seq (st_set (i := 4) (EvD.cast (ev_pub (EvN.cast (es := List.map inD []) en_lst0 rfl)) (congrArg (lsD inD) (Option.some.inj hlonger6)))) ?_
      obtain ⟨t17, ht17, h⟩ := bnd h
      show StD K _ [.val (D.int p), .val (D.int genus), .val (lsD inD s3), .val (D.int x4), .val (lsD inD longer6), .un, .un] _
      refine st_seq (st_foldO (S := (List (List Int))) (enc := inD) (fun s7 : (List (List Int)) => [.val (D.int p), .val (D.int genus), .val (lsD inD s3), .val (D.int x4), .val (lsD inD s7), .un, .un]) (it_list (ev_var (i := 2) rfl)) ht17 (fun s7 x8 _ s9 h => ⟨_, _, tg_name, ?_⟩)) ?_
      · show StD K _ [.val (D.int p), .val (D.int genus), .val (lsD inD s3), .val (D.int x4), .val (lsD inD s7), .val (inD x8), .un] _
        refine st_last ?_
        obtain ⟨r10, hr10, h⟩ := bnd h
        obtain ⟨gr10, er10⟩ := gd_ok hr10
        obtain ⟨k14, hk14, h⟩ := bnd h
        obtain ⟨gk14, ek14⟩ := gd_ok hk14
        obtain ⟨l13, hl13, h⟩ := bnd h
        obtain ⟨l16, hl16, h⟩ := bnd h
        obtain ⟨gl16, el16⟩ := gd_ok hl16
        refine st_seq (st_set (i := 4) (ev_pub (EvN.cast (en_catO (enc := inD) gl16 (ev_var (i := 4) rfl) (ev_pub (en_mapO (enc := D.int) inD gk14 (itc (it_rng1 gr10 (ev_var (i := 0) rfl)) er10) hl13 (fun x11 _ z15 hz15 => ⟨_, _, tg_name, (fun _ h => h), by obtain ⟨l12, hl12, hz15⟩ := bnd hz15; obtain ⟨gl12, el12⟩ := gd_ok hl12; exact (EvD.cast (ev_pub (EvN.cast (en_catO (enc := D.int) gl12 (ev_var (i := 5) rfl) (ev_pub (EvN.cast (es := List.map D.int [x11]) (en_lst (ea_cons (ev_var (i := 6) rfl) ea_nil) (by show 1 ≤ sizeLine; decide)) rfl))) (congrArg (List.map D.int) el12))) (congrArg inD (Option.some.inj hz15)))⟩)))) (congrArg (List.map inD) el16)))) ?_
        rw [← Option.some.inj h]
        exact StD.lp (st_nilW (.eq (.eq (.eq (.eq (.eq (.un (.un .nil))))))))
      show StD K _ [.val (D.int p), .val (D.int genus), .val (lsD inD s3), .val (D.int x4), .val (lsD inD t17), .un, .un] _
      refine st_last ?_
      refine st_seq (st_set (i := 2) (ev_var (i := 4) rfl)) ?_
      rw [← Option.some.inj h]
      exact StD.lp (st_nilW (.eq (.eq (.eq (.un (.un (.un (.un .nil))))))))
    show StD K _ [.val (D.int p), .val (D.int genus), .val (lsD inD t18), .un, .un, .un, .un] _
    refine st_last ?_
    exact st_ret (EvD.cast (ev_var (i := 2) rfl) (congrArg (lsD inD) (Option.some.inj h)))
abbrev s__law_stands : Stmt := top 70
abbrev nm__law_stands : List Str := ["told", "lines", "space", "turn", "known", "numbers", "key"]
theorem sc__law_stands : FnScope nm__law_stands ["told", "lines"] (defScope s__law_stands) := ⟨rfl, rfl, rfl, by decide +kernel, rfl, by decide +kernel, by decide +kernel⟩
theorem ok__law_stands (fx : Fx K mg) (c__law_whole_space : Cal P w K mg base 1 "_law_whole_space" (spD K p__law_whole_space) []) (c__law_brought : Cal P w K mg base 1 "_law_brought" (spD K p__law_brought) []) (F : FunD K "_law_stands" "_law_stands" (defArgs s__law_stands) (defBody s__law_stands) (defScope s__law_stands) [] [] f fd) : FnOk P w K mg base CX0 2 f fd ["told", "lines"] (spD K p__law_stands) := by
  refine F.ok sc__law_stands (spD_len (n := 2) ?_) (fun cdv A outer s H vs Q E hr h => ⟨_, PSs.nox ((pss_cons (ps_set (i := 2) sc__law_stands.nd rfl (by first | exact Or.inl rfl | exact Or.inr rfl) (pe_c c__law_whole_space hr (by decide) rfl (pa_cons (pe_ix (ixt K) (pv 0) pe_int (fun _ _ => rfl)) (pa_cons (pe_callB (lenS K) (by rfl) fx.b_len (by decide +kernel) (pa_cons (pv 1) pa_nil)) pa_nil))))
      (pss_cons (ps_for PassesOwn.never rfl (pi_range1 (by rfl) fx.b_range (pa_cons (pe_callB (lenS K) (by rfl) fx.b_len (by decide +kernel) (pa_cons (pv 1) pa_nil)) pa_nil)) (pg_name (i := 3) sc__law_stands.nd rfl (by first | exact Or.inl rfl | exact Or.inr rfl))
      (pss_cons (ps_set (i := 4) sc__law_stands.nd rfl (by first | exact Or.inl rfl | exact Or.inr rfl) (pe_callTy (cr_dictT (K := K) rfl (room_u3 hr)) (by rfl) fx.b_dict (by decide +kernel) (pa_cons (pe_lc (own := [("numbers", 5)]) rfl sc__law_stands.nd (pil K (pv 2)) (blkOk_by (N := nm__law_stands) (sc := defScope s__law_stands) (by decide +kernel)) (fun _ _ _ _ _ => (pg_name (i := 5) sc__law_stands.nd rfl (by first | exact Or.inl rfl | exact Or.inr rfl))) (fun _ _ _ _ _ => pts_nil) (fun _ _ _ _ _ => (pe_tup (pa_cons (pe_callTy (tupOf K) (by rfl) fx.b_tuple (by decide +kernel) (pa_cons (pe_c c__law_brought hr (by decide) rfl (pa_cons (pv 0) (pa_cons (pv 1) (pa_cons (pv 5) pa_nil)))) pa_nil)) (pa_cons pe_bl pa_nil))))) pa_nil)))
      (pss_one (ps_setLc (i := 2) (own := [("key", 6)]) rfl sc__law_stands.nd rfl rfl (sw_true rfl rfl rfl (by decide +kernel)) (pil K (pe_callB (cr_sortedDT rfl hr.units) (by rfl) fx.b_sorted (by decide +kernel) (pa_cons (pv 4) pa_nil))) (blkOk_by (N := nm__law_stands) (sc := defScope s__law_stands) (by decide +kernel)) (fun _ _ _ _ _ => (pg_name (i := 6) sc__law_stands.nd rfl (by first | exact Or.inl rfl | exact Or.inr rfl))) (fun _ _ _ _ _ => pts_nil) (fun _ _ _ _ _ => (pe_callTy (lstOf K) (by rfl) fx.b_list (by decide +kernel) (pa_cons (pv 6) pa_nil)))))))
      (pss_one (ps_ret (pe_callB (lenS K) (by rfl) fx.b_len (by decide +kernel) (pa_cons (pv 2) pa_nil))))))), run_def (N := nm__law_stands) (fun ds d p => ?_) vs H Q E h⟩)
  · rintro ds d ⟨_, _, _, rfl, _⟩; rfl
  ·
    obtain ⟨told, lines, r, rfl, h, rfl⟩ := p
    unfold m__law_stands at h
    show StD K _ [.val (D.tup [(D.int told.1), (inD told.2)]), .val (lsD inD lines), .un, .un, .un, .un, .un] _
    obtain ⟨c1, hc1, h⟩ := bnd h
    refine st_seq (st_set (i := 2) (ev_call (ea_cons (ev_tix (j := 0) rfl (ev_var (i := 0) rfl)) (ea_cons (ev_lenL (as := lines) (enc := inD) (EvD.h (ev_var (i := 1) rfl))) ea_nil)) (q__law_whole_space hc1))) ?_
    obtain ⟨r2, hr2, h⟩ := bnd h
    obtain ⟨gr2, er2⟩ := gd_ok hr2
    obtain ⟨t18, ht18, h⟩ := bnd h
    show StD K _ [.val (D.tup [(D.int told.1), (inD told.2)]), .val (lsD inD lines), .val (lsD inD c1), .un, .un, .un, .un] _
    refine st_seq (st_foldO (S := (List (List Int))) (enc := D.int) (fun s3 : (List (List Int)) => [.val (D.tup [(D.int told.1), (inD told.2)]), .val (lsD inD lines), .val (lsD inD s3), .un, .un, .un, .un]) (itc (it_rng1 gr2 (ev_lenL (as := lines) (enc := inD) (EvD.h (ev_var (i := 1) rfl)))) er2) ht18 (fun s3 x4 _ s5 h => ⟨_, _, tg_name, ?_⟩)) ?_
    · show StD K _ [.val (D.tup [(D.int told.1), (inD told.2)]), .val (lsD inD lines), .val (lsD inD s3), .val (D.int x4), .un, .un, .un] _
      obtain ⟨k9, hk9, h⟩ := bnd h
      obtain ⟨gk9, ek9⟩ := gd_ok hk9
      obtain ⟨l8, hl8, h⟩ := bnd h
      obtain ⟨k11, hk11, h⟩ := bnd h
      obtain ⟨gk11, ek11⟩ := gd_ok hk11
      obtain ⟨known12, hknown12, h⟩ := bnd h
      refine st_seq (st_setM (i := 4) (c := dcS D.bl known12) (by rw [← Option.some.inj hknown12]; exact (em_dict (enc := D.bl) gk11 (ev_pub (en_mapO (enc := inD) (fun x : ((List Int) × Bool) => (D.tup [(D.key x.1), (D.bl x.2)])) gk9 (it_list (ev_var (i := 2) rfl)) hl8 (fun x6 _ z10 hz10 => ⟨_, _, tg_name, (fun _ h => h), by obtain ⟨c7, hc7, hz10⟩ := bnd hz10; exact (EvD.cast (ev_tup (ea_cons (ev_tupK (ev_call (ea_cons (ev_var (i := 0) rfl) (ea_cons (ev_var (i := 1) rfl) (ea_cons (ev_var (i := 5) rfl) ea_nil))) (q__law_brought hc7))) (ea_cons ev_bl ea_nil)) (by show 2 ≤ sizeLine; decide)) (congrArg (fun x : ((List Int) × Bool) => (D.tup [(D.key x.1), (D.bl x.2)])) (Option.some.inj hz10)))⟩))))) (fun h => nomatch h)) ?_
      refine st_last ?_
      obtain ⟨k13, hk13, h⟩ := bnd h
      obtain ⟨gk13, ek13⟩ := gd_ok hk13
      obtain ⟨k16, hk16, h⟩ := bnd h
      obtain ⟨gk16, ek16⟩ := gd_ok hk16
      obtain ⟨l15, hl15, h⟩ := bnd h
      refine st_seq (st_set (i := 2) (ev_pub (en_mapO (enc := D.key) inD gk16 (it_list (ev_pub (en_sortDct (enc := D.bl) (i := 4) rfl gk13))) hl15 (fun x14 _ z17 hz17 => ⟨_, _, tg_name, (fun _ h => h), by exact (EvD.cast (ev_pub (en_listofK (ev_var (i := 6) rfl))) (congrArg inD (Option.some.inj hz17)))⟩)))) ?_
      rw [← Option.some.inj h]
      exact StD.lp (st_nilW (.eq (.eq (.eq (.un (.un (.un (.un .nil))))))))
    show StD K _ [.val (D.tup [(D.int told.1), (inD told.2)]), .val (lsD inD lines), .val (lsD inD t18), .un, .un, .un, .un] _
    refine st_last ?_
    exact st_ret (EvD.cast (ev_lenL (as := t18) (enc := inD) (EvD.h (ev_var (i := 2) rfl))) (congrArg D.int (Option.some.inj h)))
abbrev s__law_rank : Stmt := top 71
abbrev nm__law_rank : List Str := ["p", "rows", "left", "found", "column", "picks", "back", "at", "by", "row", "spot"]
theorem sc__law_rank : FnScope nm__law_rank ["p", "rows"] (defScope s__law_rank) := ⟨rfl, rfl, rfl, by decide +kernel, rfl, by decide +kernel, by decide +kernel⟩
theorem ok__law_rank (fx : Fx K mg) (c__law_back : Cal P w K mg base 1 "_law_back" (spD K p__law_back) []) (F : FunD K "_law_rank" "_law_rank" (defArgs s__law_rank) (defBody s__law_rank) (defScope s__law_rank) [] [] f fd) : FnOk P w K mg base CX0 2 f fd ["p", "rows"] (spD K p__law_rank) := by
  refine F.ok sc__law_rank (spD_len (n := 2) ?_) (fun cdv A outer s H vs Q E hr h => ⟨_, PSs.nox ((pss_cons (ps_asg (pe_tup (pa_cons (pe_lc (own := [("row", 9)]) rfl sc__law_rank.nd (pil K (pv 1)) (blkOk_by (N := nm__law_rank) (sc := defScope s__law_rank) (by decide +kernel)) (fun _ _ _ _ _ => (pg_name (i := 9) sc__law_rank.nd rfl (by first | exact Or.inl rfl | exact Or.inr rfl))) (fun _ _ _ _ _ => pts_nil) (fun _ _ _ _ _ => (pe_callTy (lstOf K) (by rfl) fx.b_list (by decide +kernel) (pa_cons (pv 9) pa_nil)))) (pa_cons pe_int pa_nil))) (pgt (n := 2) K rfl (pgs_cons (pg_name (i := 2) sc__law_rank.nd rfl (by first | exact Or.inl rfl | exact Or.inr rfl)) (pgs_cons (pg_name (i := 3) sc__law_rank.nd rfl (by first | exact Or.inl rfl | exact Or.inr rfl)) pgs_nil))))
      (pss_cons (ps_for PassesOwn.never rfl (pi_range1 (by rfl) fx.b_range (pa_cons (pe_ifExp (pt_cmpR (opNe K hr.units) (pv 2) (pe_lst pa_nil) (nomark _)) (pe_callB (lenS K) (by rfl) fx.b_len (by decide +kernel) (pa_cons (pe_ix (ixl K) (pv 2) pe_int (fun _ _ => rfl)) pa_nil)) pe_int) pa_nil)) (pg_name (i := 4) sc__law_rank.nd rfl (by first | exact Or.inl rfl | exact Or.inr rfl))
      (pss_cons (ps_setLc (i := 5) (own := [("at", 7)]) rfl sc__law_rank.nd rfl rfl (sw_true rfl rfl rfl (by decide +kernel)) (pi_range2 (by rfl) fx.b_range (pa_cons (pv 3) (pa_cons (pe_callB (lenS K) (by rfl) fx.b_len (by decide +kernel) (pa_cons (pv 2) pa_nil)) pa_nil))) (blkOk_by (N := nm__law_rank) (sc := defScope s__law_rank) (by decide +kernel)) (fun _ _ _ _ _ => (pg_name (i := 7) sc__law_rank.nd rfl (by first | exact Or.inl rfl | exact Or.inr rfl))) (fun _ _ _ _ _ => (pts_one (pt_cmpR op_ne (pe_ix (ixl K) (pe_ix (ixl K) (pv 2) (pv 7) (fun _ _ => rfl)) (pv 4) (fun _ _ => rfl)) pe_int (nomark _)))) (fun _ _ _ _ _ => (pv 7)))
      (pss_one (ps_if (pt_cmpR (opNe K hr.units) (pv 5) (pe_lst pa_nil) (nomark _)) (pss_cons (ps_asg (pe_tup (pa_cons (pe_ix (ixl K) (pv 2) (pe_ix (ixl K) (pv 5) pe_int (fun _ _ => rfl)) (fun _ _ => rfl)) (pa_cons (pe_ix (ixl K) (pv 2) (pv 3) (fun _ _ => rfl)) pa_nil))) (pgt (n := 2) K rfl (pgs_cons (pg_sub (pv 2) (pv 3) set_list) (pgs_cons (pg_sub (pv 2) (pe_ix (ixl K) (pv 5) pe_int (fun _ _ => rfl)) set_list) pgs_nil))))
      (pss_cons (ps_set (i := 6) sc__law_rank.nd rfl (by first | exact Or.inl rfl | exact Or.inr rfl) (pe_c c__law_back hr (by decide) rfl (pa_cons (pv 0) (pa_cons (pe_ix (ixl K) (pe_ix (ixl K) (pv 2) (pv 3) (fun _ _ => rfl)) (pv 4) (fun _ _ => rfl)) pa_nil))))
      (pss_cons (ps_for PassesOwn.never rfl (pi_range2 (by rfl) fx.b_range (pa_cons (pe_op op_add (pv 3) pe_int) (pa_cons (pe_callB (lenS K) (by rfl) fx.b_len (by decide +kernel) (pa_cons (pv 2) pa_nil)) pa_nil))) (pg_name (i := 7) sc__law_rank.nd rfl (by first | exact Or.inl rfl | exact Or.inr rfl))
      (pss_cons (ps_set (i := 8) sc__law_rank.nd rfl (by first | exact Or.inl rfl | exact Or.inr rfl) (pe_op op_mul (pe_ix (ixl K) (pe_ix (ixl K) (pv 2) (pv 7) (fun _ _ => rfl)) (pv 4) (fun _ _ => rfl)) (pv 6)))
      (pss_one (ps_asg (pe_lc (own := [("spot", 10)]) rfl sc__law_rank.nd (pi_range1 (by rfl) fx.b_range (pa_cons (pe_callB (lenS K) (by rfl) fx.b_len (by decide +kernel) (pa_cons (pe_ix (ixl K) (pv 2) (pv 7) (fun _ _ => rfl)) pa_nil)) pa_nil)) (blkOk_by (N := nm__law_rank) (sc := defScope s__law_rank) (by decide +kernel)) (fun _ _ _ _ _ => (pg_name (i := 10) sc__law_rank.nd rfl (by first | exact Or.inl rfl | exact Or.inr rfl))) (fun _ _ _ _ _ => pts_nil) (fun _ _ _ _ _ => (pe_op op_mod (pe_callTy call_int1 (by rfl) fx.b_int (by decide +kernel) (pa_cons (pe_op op_sub (pe_ix (ixl K) (pe_ix (ixl K) (pv 2) (pv 7) (fun _ _ => rfl)) (pv 10) (fun _ _ => rfl)) (pe_op op_mul (pv 8) (pe_ix (ixl K) (pe_ix (ixl K) (pv 2) (pv 3) (fun _ _ => rfl)) (pv 10) (fun _ _ => rfl)))) pa_nil)) (pv 0)))) (pg_sub (pv 2) (pv 7) set_list)))))
      (pss_one (ps_set (i := 3) sc__law_rank.nd rfl (by first | exact Or.inl rfl | exact Or.inr rfl) (pe_op op_add (pv 3) pe_int)))))) pss_nil))))
      (pss_one (ps_ret (pv 3)))))), run_def (N := nm__law_rank) (fun ds d p => ?_) vs H Q E h⟩)
  · rintro ds d ⟨_, _, _, rfl, _⟩; rfl
  ·
    obtain ⟨p, rows, r, rfl, h, rfl⟩ := p
    unfold m__law_rank at h
    show StD K _ [.val (D.int p), .val (lsD inD rows), .un, .un, .un, .un, .un, .un, .un, .un, .un] _
    obtain ⟨k3, hk3, h⟩ := bnd h
    obtain ⟨gk3, ek3⟩ := gd_ok hk3
    obtain ⟨l2, hl2, h⟩ := bnd h
    obtain ⟨found5, hfound5, h⟩ := bnd h
    refine st_seq (st_parT (i := 2) (j := 3) (c1 := .own (List.map inD l2)) (c2 := .val (D.int found5)) (em_n (en_mapO (enc := inD) inD gk3 (it_list (ev_var (i := 1) rfl)) hl2 (fun x1 _ z4 hz4 => ⟨_, _, tg_name, (fun _ h => h), by exact (EvD.cast (ev_pub (en_listof (ev_var (i := 9) rfl))) (congrArg inD (Option.some.inj hz4)))⟩))) (em_v (EvD.cast ev_int (congrArg D.int (Option.some.inj hfound5)))) (fun h => nomatch h) (fun h => nomatch h) ) ?_
    obtain ⟨i7, hi7, h⟩ := bnd h
    obtain ⟨r11, hr11, h⟩ := bnd h
    obtain ⟨gr11, er11⟩ := gd_ok hr11
    obtain ⟨t60, ht60, h⟩ := bnd h
    show StD K _ [.val (D.int p), .val (lsD inD rows), .own (List.map inD l2), .val (D.int found5), .un, .un, .un, .un, .un, .un, .un] _
    refine st_seq (st_foldO (S := Int × (List (List Int))) (enc := D.int) (fun s12 : Int × (List (List Int)) => [.val (D.int p), .val (lsD inD rows), .own (List.map inD s12.2), .val (D.int s12.1), .un, .un, .un, .un, .un, .un, .un]) (itc (it_rng1 gr11 (ev_ifO (enc := D.int) hi7 (fun z8 hz8 => by exact (EvB.cast (eb_test (ev_see (i := 2) scal_bl rfl (ev_neL (a := l2) (b := ([] : List (List Int))) (like_lst (like_lst like_int)) (by decide) (EvD.h (ev_var (i := 2) rfl)) (EvD.h (ev_pub (EvN.cast (es := List.map inD []) en_lst0 rfl)))))) (Option.some.inj hz8))) (fun z9 hz9 => by obtain ⟨x6, hx6, hz9⟩ := bnd hz9; exact (EvD.cast (ev_lenL (as := x6) (enc := D.int) (EvD.h (ev_atO (enc := inD) (i := 2) rfl hx6 ev_int))) (congrArg D.int (Option.some.inj hz9)))) (fun z10 hz10 => by exact (EvD.cast ev_int (congrArg D.int (Option.some.inj hz10)))))) er11) ht60 (fun s12 x13 _ s14 h => ⟨_, _, tg_name, ?_⟩)) ?_
    · show StD K _ [.val (D.int p), .val (lsD inD rows), .own (List.map inD s12.2), .val (D.int s12.1), .val (D.int x13), .un, .un, .un, .un, .un, .un] _
      obtain ⟨r15, hr15, h⟩ := bnd h
      obtain ⟨gr15, er15⟩ := gd_ok hr15
      obtain ⟨k20, hk20, h⟩ := bnd h
      obtain ⟨gk20, ek20⟩ := gd_ok hk20
      obtain ⟨l19, hl19, h⟩ := bnd h
      refine st_seq (st_set (i := 5) (ev_pub (en_fltO (enc := D.int) D.int gk20 (itc (it_rng2 gr15 (ev_var (i := 3) rfl) (ev_lenL (as := s12.2) (enc := inD) (eh_own (i := 2) rfl))) er15) hl19 (fun x16 _ => ⟨_, _, tg_name, (fun _ h => h), (fun z21 hz21 => by obtain ⟨x17, hx17, hz21⟩ := bnd hz21; obtain ⟨x18, hx18, hz21⟩ := bnd hz21; exact (EvB.cast (eb_test (ev_neI (ev_at (enc := D.int) hx18 (ev_atO (enc := inD) (i := 2) rfl hx17 (ev_var (i := 7) rfl)) (ev_var (i := 4) rfl)) ev_int)) (Option.some.inj hz21))), (fun z22 _ hz22 => by exact (EvD.cast (ev_var (i := 7) rfl) (congrArg D.int (Option.some.inj hz22))))⟩)))) ?_
      refine st_last ?_
      obtain ⟨b23, hb23, h⟩ := bnd h
      obtain ⟨w25, hw25, h⟩ := bnd h
      show StD K _ [.val (D.int p), .val (lsD inD rows), .own (List.map inD s12.2), .val (D.int s12.1), .val (D.int x13), .val (inD l19), .un, .un, .un, .un, .un] _
      refine st_seq (G1 := [.val (D.int p), .val (lsD inD rows), .own (List.map inD w25.1), .val (D.int w25.2), .val (D.int x13), .val (inD l19), .un, .un, .un, .un, .un]) (st_if (x := b23) (EvB.cast (eb_test (ev_neL (a := l19) (b := ([] : List Int)) (like_lst like_int) (by decide) (EvD.h (ev_var (i := 5) rfl)) (EvD.h (ev_pub (EvN.cast (es := List.map D.int []) en_lst0 rfl))))) (Option.some.inj hb23)) (fun z24 => ?_) (fun z24 => ?_)) ?_
      · rw [if_t z24] at hw25
        clear h
        have h := hw25
        clear hw25
        obtain ⟨x26, hx26, h⟩ := bnd h
        obtain ⟨x27, hx27, h⟩ := bnd h
        obtain ⟨x28, hx28, h⟩ := bnd h
        obtain ⟨k30, hk30, h⟩ := bnd h
        obtain ⟨x32, hx32, h⟩ := bnd h
        obtain ⟨k31, hk31, h⟩ := bnd h
        obtain ⟨left33, hleft33, h⟩ := bnd h
        refine st_seq (st_ow (enc := inD) (st_swapA (enc := inD) (i := 2) rfl (ev_atO (enc := inD) (i := 2) rfl hx27 (ev_at (enc := D.int) hx26 (ev_var (i := 5) rfl) ev_int)) (ev_atO (enc := inD) (i := 2) rfl hx28 (ev_var (i := 3) rfl)) hk30 (ev_var (i := 3) rfl) hk31 (ev_at (enc := D.int) hx32 (ev_var (i := 5) rfl) ev_int)) (Option.some.inj hleft33)) ?_
        show StD K _ [.val (D.int p), .val (lsD inD rows), .own (List.map inD left33), .val (D.int s12.1), .val (D.int x13), .val (inD l19), .un, .un, .un, .un, .un] _
        obtain ⟨x34, hx34, h⟩ := bnd h
        obtain ⟨x35, hx35, h⟩ := bnd h
        obtain ⟨c36, hc36, h⟩ := bnd h
        refine st_seq (st_set (i := 6) (ev_call (ea_cons (ev_var (i := 0) rfl) (ea_cons (ev_at (enc := D.int) hx35 (ev_atO (enc := inD) (i := 2) rfl hx34 (ev_var (i := 3) rfl)) (ev_var (i := 4) rfl)) ea_nil)) (q__law_back hc36))) ?_
        obtain ⟨r37, hr37, h⟩ := bnd h
        obtain ⟨gr37, er37⟩ := gd_ok hr37
        obtain ⟨t58, ht58, h⟩ := bnd h
        show StD K _ [.val (D.int p), .val (lsD inD rows), .own (List.map inD left33), .val (D.int s12.1), .val (D.int x13), .val (inD l19), .val (D.int c36), .un, .un, .un, .un] _
        refine st_seq (st_foldO (S := (List (List Int))) (enc := D.int) (fun s38 : (List (List Int)) => [.val (D.int p), .val (lsD inD rows), .own (List.map inD s38), .val (D.int s12.1), .val (D.int x13), .val (inD l19), .val (D.int c36), .un, .un, .un, .un]) (itc (it_rng2 gr37 (ev_add (ev_var (i := 3) rfl) ev_int) (ev_lenL (as := left33) (enc := inD) (eh_own (i := 2) rfl))) er37) ht58 (fun s38 x39 _ s40 h => ⟨_, _, tg_name, ?_⟩)) ?_
        · show StD K _ [.val (D.int p), .val (lsD inD rows), .own (List.map inD s38), .val (D.int s12.1), .val (D.int x13), .val (inD l19), .val (D.int c36), .val (D.int x39), .un, .un, .un] _
          obtain ⟨x41, hx41, h⟩ := bnd h
          obtain ⟨x42, hx42, h⟩ := bnd h
          obtain ⟨n43, hn43, h⟩ := bnd h
          obtain ⟨gn43, en43⟩ := gd_ok hn43
          refine st_seq (st_set (i := 8) (EvD.cast (ev_mulS gn43 (ev_at (enc := D.int) hx42 (ev_atO (enc := inD) (i := 2) rfl hx41 (ev_var (i := 7) rfl)) (ev_var (i := 4) rfl)) (ev_var (i := 6) rfl)) (congrArg D.int en43))) ?_
          refine st_last ?_
          obtain ⟨x44, hx44, h⟩ := bnd h
          obtain ⟨r45, hr45, h⟩ := bnd h
          obtain ⟨gr45, er45⟩ := gd_ok hr45
          obtain ⟨k54, hk54, h⟩ := bnd h
          obtain ⟨gk54, ek54⟩ := gd_ok hk54
          obtain ⟨l53, hl53, h⟩ := bnd h
          obtain ⟨k56, hk56, h⟩ := bnd h
          obtain ⟨left57, hleft57, h⟩ := bnd h
          refine st_seq (st_ow (enc := inD) (st_setA (enc := inD) (i := 2) rfl hk56 (ev_pub (en_mapO (enc := D.int) D.int gk54 (itc (it_rng1 gr45 (ev_lenL (as := x44) (enc := D.int) (EvD.h (ev_atO (enc := inD) (i := 2) rfl hx44 (ev_var (i := 7) rfl))))) er45) hl53 (fun x46 _ z55 hz55 => ⟨_, _, tg_name, (fun _ h => h), by obtain ⟨x47, hx47, hz55⟩ := bnd hz55; obtain ⟨x48, hx48, hz55⟩ := bnd hz55; obtain ⟨x49, hx49, hz55⟩ := bnd hz55; obtain ⟨x50, hx50, hz55⟩ := bnd hz55; obtain ⟨n51, hn51, hz55⟩ := bnd hz55; obtain ⟨gn51, en51⟩ := gd_ok hn51; obtain ⟨n52, hn52, hz55⟩ := bnd hz55; obtain ⟨gn52, en52⟩ := gd_ok hn52; exact (EvD.cast (EvD.cast (ev_mod gn52 (ev_intc (ev_sub (ev_at (enc := D.int) hx48 (ev_atO (enc := inD) (i := 2) rfl hx47 (ev_var (i := 7) rfl)) (ev_var (i := 10) rfl)) (EvD.cast (ev_mulS gn51 (ev_var (i := 8) rfl) (ev_at (enc := D.int) hx50 (ev_atO (enc := inD) (i := 2) rfl hx49 (ev_var (i := 3) rfl)) (ev_var (i := 10) rfl))) (congrArg D.int en51)))) (ev_var (i := 0) rfl)) (congrArg D.int en52)) (congrArg D.int (Option.some.inj hz55)))⟩))) (ev_var (i := 7) rfl)) (Option.some.inj hleft57)) ?_
          show StD K _ [.val (D.int p), .val (lsD inD rows), .own (List.map inD left57), .val (D.int s12.1), .val (D.int x13), .val (inD l19), .val (D.int c36), .val (D.int x39), .val (D.int n43), .un, .un] _
          rw [← Option.some.inj h]
          exact StD.lp (st_nilW (.eq (.eq (.eq (.eq (.eq (.eq (.eq (.un (.un (.un (.un .nil))))))))))))
        show StD K _ [.val (D.int p), .val (lsD inD rows), .own (List.map inD t58), .val (D.int s12.1), .val (D.int x13), .val (inD l19), .val (D.int c36), .un, .un, .un, .un] _
        refine st_last ?_
        obtain ⟨found59, hfound59, h⟩ := bnd h
        refine st_seq (st_set (i := 3) (EvD.cast (ev_add (ev_var (i := 3) rfl) ev_int) (congrArg D.int (Option.some.inj hfound59)))) ?_
        rw [← Option.some.inj h]
        exact st_nilW (.eq (.eq (.eq (.eq (.eq (.eq (.un (.un (.un (.un (.un .nil)))))))))))
      · rw [if_f z24] at hw25
        clear h
        have h := hw25
        clear hw25
        rw [← Option.some.inj h]
        exact st_nilW (.eq (.eq (.eq (.eq (.eq (.eq (.un (.un (.un (.un (.un .nil)))))))))))
      rw [← Option.some.inj h]
      exact StD.lp (st_nilW (.eq (.eq (.eq (.eq (.un (.un (.un (.un (.un (.un (.un .nil))))))))))))
    show StD K _ [.val (D.int p), .val (lsD inD rows), .own (List.map inD t60.2), .val (D.int t60.1), .un, .un, .un, .un, .un, .un, .un] _
    refine st_last ?_
    exact st_ret (EvD.cast (ev_var (i := 3) rfl) (congrArg D.int (Option.some.inj h)))
abbrev s__law_last_rank : Stmt := top 72
abbrev nm__law_last_rank : List Str := ["told", "lines", "rows", "turn", "high", "low", "row"]
theorem sc__law_last_rank : FnScope nm__law_last_rank ["told", "lines"] (defScope s__law_last_rank) := ⟨rfl, rfl, rfl, by decide +kernel, rfl, by decide +kernel, by decide +kernel⟩
theorem ok__law_last_rank (fx : Fx K mg) (c__law_rank : Cal P w K mg base 2 "_law_rank" (spD K p__law_rank) []) (c__law_brought : Cal P w K mg base 1 "_law_brought" (spD K p__law_brought) []) (F : FunD K "_law_last_rank" "_law_last_rank" (defArgs s__law_last_rank) (defBody s__law_last_rank) (defScope s__law_last_rank) [] [] f fd) : FnOk P w K mg base CX0 3 f fd ["told", "lines"] (spD K p__law_last_rank) := by
  refine F.ok sc__law_last_rank (spD_len (n := 2) ?_) (fun cdv A outer s H vs Q E hr h => ⟨_, PSs.nox ((pss_cons (ps_setLc (i := 2) (own := [("low", 5)]) rfl sc__law_last_rank.nd rfl rfl (sw_true rfl rfl rfl (by decide +kernel)) (pi_range1 (by rfl) fx.b_range (pa_cons (pe_callB (lenS K) (by rfl) fx.b_len (by decide +kernel) (pa_cons (pv 1) pa_nil)) pa_nil)) (blkOk_by (N := nm__law_last_rank) (sc := defScope s__law_last_rank) (by decide +kernel)) (fun _ _ _ _ _ => (pg_name (i := 5) sc__law_last_rank.nd rfl (by first | exact Or.inl rfl | exact Or.inr rfl))) (fun _ _ _ _ _ => pts_nil) (fun _ _ _ _ _ => (pe_lc (own := [("high", 4)]) rfl sc__law_last_rank.nd (pi_range1 (by rfl) fx.b_range (pa_cons (pe_callB (lenS K) (by rfl) fx.b_len (by decide +kernel) (pa_cons (pv 1) pa_nil)) pa_nil)) (blkOk_by (by kernel_rfl)) (fun _ _ _ _ _ => (pg_name (i := 4) sc__law_last_rank.nd rfl (by first | exact Or.inl rfl | exact Or.inr rfl))) (fun _ _ _ _ _ => pts_nil) (fun _ _ _ _ _ => (pe_callTy call_int1 (by rfl) fx.b_int (by decide +kernel) (pa_cons (pe_cmpR op_eq (pv 5) (pv 4) (nomark _)) pa_nil))))))
      (pss_cons (ps_for PassesOwn.never rfl (pi_range1 (by rfl) fx.b_range (pa_cons (pe_callB (lenS K) (by rfl) fx.b_len (by decide +kernel) (pa_cons (pv 1) pa_nil)) pa_nil)) (pg_name (i := 3) sc__law_last_rank.nd rfl (by first | exact Or.inl rfl | exact Or.inr rfl))
      (pss_one (ps_setLc (i := 2) (own := [("row", 6)]) rfl sc__law_last_rank.nd rfl rfl (sw_true rfl rfl rfl (by decide +kernel)) (pil K (pv 2)) (blkOk_by (N := nm__law_last_rank) (sc := defScope s__law_last_rank) (by decide +kernel)) (fun _ _ _ _ _ => (pg_name (i := 6) sc__law_last_rank.nd rfl (by first | exact Or.inl rfl | exact Or.inr rfl))) (fun _ _ _ _ _ => pts_nil) (fun _ _ _ _ _ => (pe_c c__law_brought hr (by decide) rfl (pa_cons (pv 0) (pa_cons (pv 1) (pa_cons (pv 6) pa_nil))))))))
      (pss_one (ps_ret (pe_c c__law_rank hr (by decide) rfl (pa_cons (pe_ix (ixt K) (pv 0) pe_int (fun _ _ => rfl)) (pa_cons (pv 2) pa_nil)))))))), run_def (N := nm__law_last_rank) (fun ds d p => ?_) vs H Q E h⟩)
  · rintro ds d ⟨_, _, _, rfl, _⟩; rfl
  ·
    obtain ⟨told, lines, r, rfl, h, rfl⟩ := p
    unfold m__law_last_rank at h
    show StD K _ [.val (D.tup [(D.int told.1), (inD told.2)]), .val (lsD inD lines), .un, .un, .un, .un, .un] _
    obtain ⟨r1, hr1, h⟩ := bnd h
    obtain ⟨gr1, er1⟩ := gd_ok hr1
    obtain ⟨k9, hk9, h⟩ := bnd h
    obtain ⟨gk9, ek9⟩ := gd_ok hk9
    obtain ⟨l8, hl8, h⟩ := bnd h
    refine st_seq (st_set (i := 2) (ev_pub (en_mapO (enc := D.int) inD gk9 (itc (it_rng1 gr1 (ev_lenL (as := lines) (enc := inD) (EvD.h (ev_var (i := 1) rfl)))) er1) hl8 (fun x2 _ z10 hz10 => ⟨_, _, tg_name, (fun _ h => h), by obtain ⟨r3, hr3, hz10⟩ := bnd hz10; obtain ⟨gr3, er3⟩ := gd_ok hr3; obtain ⟨k6, hk6, hz10⟩ := bnd hz10; obtain ⟨gk6, ek6⟩ := gd_ok hk6; obtain ⟨l5, hl5, hz10⟩ := bnd hz10; exact (EvD.cast (ev_pub (en_mapO (enc := D.int) D.int gk6 (itc (it_rng1 gr3 (ev_lenL (as := lines) (enc := inD) (EvD.h (ev_var (i := 1) rfl)))) er3) hl5 (fun x4 _ z7 hz7 => ⟨_, _, tg_name, (fun _ h => h), by exact (EvD.cast (ev_cb (ea1 (ev_eqI (ev_var (i := 5) rfl) (ev_var (i := 4) rfl))) oa_intB) (congrArg D.int (Option.some.inj hz7)))⟩))) (congrArg inD (Option.some.inj hz10)))⟩)))) ?_
    obtain ⟨r11, hr11, h⟩ := bnd h
    obtain ⟨gr11, er11⟩ := gd_ok hr11
    obtain ⟨t20, ht20, h⟩ := bnd h
    show StD K _ [.val (D.tup [(D.int told.1), (inD told.2)]), .val (lsD inD lines), .val (lsD inD l8), .un, .un, .un, .un] _
    refine st_seq (st_foldO (S := (List (List Int))) (enc := D.int) (fun s12 : (List (List Int)) => [.val (D.tup [(D.int told.1), (inD told.2)]), .val (lsD inD lines), .val (lsD inD s12), .un, .un, .un, .un]) (itc (it_rng1 gr11 (ev_lenL (as := lines) (enc := inD) (EvD.h (ev_var (i := 1) rfl)))) er11) ht20 (fun s12 x13 _ s14 h => ⟨_, _, tg_name, ?_⟩)) ?_
    · show StD K _ [.val (D.tup [(D.int told.1), (inD told.2)]), .val (lsD inD lines), .val (lsD inD s12), .val (D.int x13), .un, .un, .un] _
      refine st_last ?_
      obtain ⟨k18, hk18, h⟩ := bnd h
      obtain ⟨gk18, ek18⟩ := gd_ok hk18
      obtain ⟨l17, hl17, h⟩ := bnd h
      refine st_seq (st_set (i := 2) (ev_pub (en_mapO (enc := inD) inD gk18 (it_list (ev_var (i := 2) rfl)) hl17 (fun x15 _ z19 hz19 => ⟨_, _, tg_name, (fun _ h => h), by obtain ⟨c16, hc16, hz19⟩ := bnd hz19; exact (EvD.cast (ev_call (ea_cons (ev_var (i := 0) rfl) (ea_cons (ev_var (i := 1) rfl) (ea_cons (ev_var (i := 6) rfl) ea_nil))) (q__law_brought hc16)) (congrArg inD (Option.some.inj hz19)))⟩)))) ?_
      rw [← Option.some.inj h]
      exact StD.lp (st_nilW (.eq (.eq (.eq (.un (.un (.un (.un .nil))))))))
    show StD K _ [.val (D.tup [(D.int told.1), (inD told.2)]), .val (lsD inD lines), .val (lsD inD t20), .un, .un, .un, .un] _
    refine st_last ?_
    obtain ⟨c21, hc21, h⟩ := bnd h
    exact st_ret (EvD.cast (ev_call (ea_cons (ev_tix (j := 0) rfl (ev_var (i := 0) rfl)) (ea_cons (ev_var (i := 2) rfl) ea_nil)) (q__law_rank hc21)) (congrArg D.int (Option.some.inj h)))
end
end Cw
set_option maxHeartbeats 4000000
namespace Cw
open PySem PySem.Spec PyProof.Rows L2
open C8 (Cal Met Mak pe_c pe_mk pe_mt pe_mt0 pe_gc InsC call_isC)
section
variable {P : Program} {w : World} {K : Fg} {mg : Str → Option Value} {base : Heap} {f : Addr} {fd : FuncData}
abbrev s__law_random : Stmt := top 52
abbrev nm__law_random : List Str := ["generator", "bound", "drawn", "turn"]
theorem sc__law_random : FnScope nm__law_random ["generator", "bound"] (defScope s__law_random) := ⟨rfl, rfl, rfl, by decide +kernel, rfl, by decide +kernel, by decide +kernel⟩
theorem ok__law_random (fx : Fx K mg) (c__law_hash : Cal P w K mg base 1 "_law_hash" (spD K p__law_hash) []) (F : FunD K "_law_random" "_law_random" (defArgs s__law_random) (defBody s__law_random) (defScope s__law_random) [] [] f fd) : FnOk P w K mg base CX0 2 f fd ["generator", "bound"] (spG K 1 p__law_random) := by
  refine F.ok sc__law_random ?_ (fun cdv A outer s H vs Q E hr h => ⟨_, PSs.nox ((pss_cons (ps_if (pt_cmpR op_gt (pe_ix (ixl K) (pv 0) pe_int (fun _ _ => rfl)) pe_int (nomark _)) (pss_cons (ps_set (i := 2) sc__law_random.nd rfl (by first | exact Or.inl rfl | exact Or.inr rfl) (pe_op op_mod (pe_callTy call_int1 (by rfl) fx.b_int (by decide +kernel) (pa_cons (pe_ix (ixl K) (pv 0) pe_int (fun _ _ => rfl)) pa_nil)) (pv 1)))
      (pss_cons (ps_asg (pe_op op_fdivW (pe_ix (ixl K) (pv 0) pe_int (fun _ _ => rfl)) (pv 1)) (pg_sub (pv 0) pe_int set_list))
      (pss_one (ps_ret (pv 2))))) pss_nil)
      (pss_cons (ps_set (i := 2) sc__law_random.nd rfl (by first | exact Or.inl rfl | exact Or.inr rfl) pe_int)
      (pss_cons (ps_for PassesOwn.never rfl (pi_range1 (by rfl) fx.b_range (pa_cons (pe_op op_add pe_int (pe_op op_fdivW (pe_bits (pv 1)) pe_int)) pa_nil)) (pg_name (i := 3) sc__law_random.nd rfl (by first | exact Or.inl rfl | exact Or.inr rfl))
      (pss_cons (ps_asg (pe_op op_add (pe_ix (ixl K) (pv 0) pe_int (fun _ _ => rfl)) pe_int) (pg_sub (pv 0) pe_int set_list))
      (pss_one (ps_set (i := 2) sc__law_random.nd rfl (by first | exact Or.inl rfl | exact Or.inr rfl) (pe_op op_add (pe_op op_mul (pv 2) pe_int) (pe_c c__law_hash hr (by decide) rfl (pa_cons (pe_ix (ixl K) (pv 0) pe_int (fun _ _ => rfl)) (pa_cons (pe_ix (ixl K) (pv 0) pe_int (fun _ _ => rfl)) pa_nil))))))))
      (pss_one (ps_ret (pe_op op_mod (pe_callTy call_int1 (by rfl) fx.b_int (by decide +kernel) (pa_cons (pv 2) pa_nil)) (pv 1)))))))), ?_⟩)
  · exact spG_len (by rintro ds d ⟨_, _, rfl, _⟩; rfl)
  · refine run_gen (N := nm__law_random) (fun g ds n hd hn => ?_) vs H Q E h
    obtain ⟨_, b, _, rfl, hb, _⟩ := hd
    have hbits : Builtin.Int.intBits b ≤ 10 := PyProof.Rows.intBits_le (k := 10) (by omega)
    have hdw : CDivW 0 b := by
      refine ⟨by omega, ?_⟩
      have := wide_div (i := 0) (j := b) (b := 10) (by omega) (by omega) (by decide) (by decide)
      exact this.2
    show StG K g 0 _ [.un, .val (.int b), .un, .un] n (n + 1) _
    refine sg_if (eg_op (P := fun d => ∃ b : Bool, d = .bl b) (eg_cell (j := 0) (by decide)) (eg_ev ev_int) fun a c ⟨v, hv, _⟩ hc => ?_) (fun d h => h) (sg_seqR ?_) (sg_next ?_)
    · subst hv hc
      exact ⟨.bl (decide (0 < v)), op_I0 fun _ => rfl, _, rfl⟩
    · refine sg_set (P := fun d => ∃ v : Int, d = .int v ∧ 0 ≤ v ∧ v < b) (by decide) (eg_op (P1 := fun d => ∃ v : Int, d = .int v) (eg_callB1 (eg_cell (j := 0) (by decide)) fun d ⟨v, hv, _⟩ => ⟨.int v, by subst hv; exact oa_int, v, rfl⟩) (eg_ev (ev_var rfl)) fun a c ⟨v, hv⟩ hc => ?_) fun d ⟨v, hv, h0, h1⟩ => ?_
      · subst hv hc
        exact ⟨.int (v % b), op_I (by omega) fun _ => rfl, v % b, rfl, Int.emod_nonneg _ (by omega), Int.emod_lt_of_pos _ (by omega)⟩
      · subst hv
        refine sg_gset (j := 0) (n1 := n) (n2 := n) (P := fun d => ∃ v : Int, d = .int v ∧ 0 ≤ v) (by decide) (eg_op (eg_cell (j := 0) (by decide)) (eg_ev (ev_var rfl)) fun a c ⟨w, hw, w0, _⟩ hc => ?_) (fun d ⟨w, hw, w0⟩ => ⟨w, hw, w0, And.intro (fun h => absurd h (by decide)) (fun h => absurd h (by decide))⟩) (Nat.le_refl _) ?_
        · subst hw hc
          exact ⟨.int (w / b), op_I ⟨hdw.1, hdw.2⟩ fun _ => rfl, w / b, rfl, Int.ediv_nonneg w0 (by omega)⟩
        · exact sg_ret (eg_ev (ev_var rfl)) (Nat.le_succ _) fun d hd => ⟨b, v, rfl, hb, hd, h0, h1⟩
    · refine sg_set (j := 2) (by decide) (eg_ev ev_int) fun d hd => ?_
      subst hd
      show StG K g 0 _ [.un, .val (.int b), .val (.int 0), .un] n (n + 1) _
      refine sg_seqN (sgn_for (m := 1) (k := 1) (O := fun G' => ∃ d : Int, G' = [.un, .val (.int b), .val (.int d), .un]) (by decide) (by decide) ((ev_add ev_int (ev_fdivW (by unfold CDivW; decide) (ev_bits (ev_var (i := 1) rfl)) ev_int)).cast (by congr 1; omega)) ⟨0, rfl⟩ fun G' x n' ⟨d, hG⟩ hn' => ?_) fun G' ⟨d, hG⟩ => ?_
      · subst hG
        show StGN K g 0 _ [.un, .val (.int b), .val (.int d), .val (.int x)] n' (n' + 1) _
        refine sgn_gset (j := 2) (n1 := n') (n2 := n' + 1) (P := fun d => ∃ v : Int, d = .int v ∧ 0 ≤ v ∧ v ≤ n' + 1) (by decide) (eg_op (eg_cell (j := 2) (by decide)) (eg_ev ev_int) fun a c ⟨v, hv, v0, _, v2⟩ hc => ?_) (fun d ⟨w, hw, w0, w1⟩ => ⟨w, hw, w0, And.intro (fun h => absurd h (by decide)) (fun _ => by omega)⟩) (Nat.le_succ _) ?_
        · subst hv hc
          have := v2 rfl
          exact ⟨.int (v + 1), op_I0 fun _ => rfl, v + 1, rfl, by omega, by omega⟩
        · refine sgn_set (j := 2) (P := fun d => ∃ v : Int, d = .int v) (by decide) (eg_op (eg_ev (ev_mulS (.inr (by decide)) (ev_var rfl) ev_int)) (eg_callD (P' := fun d => ∃ v : Int, d = .int v) (ega_cons (eg_cell (j := 1) (by decide)) fun _ _ => ega_cons (eg_cell (j := 2) (by decide)) fun _ _ => ega_nil) fun ds hd => ?_) fun a c ha ⟨v, hv⟩ => ?_) fun e ⟨v, hv⟩ => ⟨_, ⟨v, rfl⟩, ?_⟩
          · obtain ⟨d1, es, rfl, ⟨v1, hv1, a0, a1, _⟩, d2, es2, rfl, ⟨v2, hv2, b0, _, b2⟩, rfl⟩ := hd
            subst hv1 hv2
            have := a1 rfl
            have := b2 rfl
            exact ⟨_, ⟨v1, v2, rfl, ⟨a0, by omega, b0, by omega⟩, rfl⟩, _, rfl⟩
          · subst ha hv
            exact ⟨.int _, op_I0 fun _ => rfl, _, rfl⟩
          · subst hv
            exact .eq (.eq (.eq (.un .nil)))
      · subst hG
        show StG K g 0 _ [.un, .val (.int b), .val (.int d), .un] (n + 1 * 1) (n + 1) _
        exact sg_ret (eg_ev (ev_mod (by omega) (ev_intc (ev_var rfl)) (ev_var rfl))) (by omega) fun e he => ⟨b, d % b, rfl, hb, he, Int.emod_nonneg _ (by omega), Int.emod_lt_of_pos _ (by omega)⟩
abbrev s__law_generator : Stmt := top 54
abbrev nm__law_generator : List Str := ["script", "index", "seed"]
theorem sc__law_generator : FnScope nm__law_generator ["script", "index"] (defScope s__law_generator) := ⟨rfl, rfl, rfl, by decide +kernel, rfl, by decide +kernel, by decide +kernel⟩
theorem ok__law_generator (fx : Fx K mg) (c__law_cell : Cal P w K mg base 1 "_law_cell" (spD K p__law_cell) []) (F : FunD K "_law_generator" "_law_generator" (defArgs s__law_generator) (defBody s__law_generator) (defScope s__law_generator) [] [] f fd) : FnOk P w K mg base CX0 2 f fd ["script", "index"] (spN K p__law_generator) := by
  refine F.ok sc__law_generator ?_ (fun cdv A outer s H vs Q E hr h => ⟨_, PSs.nox ((pss_cons (ps_set (i := 2) sc__law_generator.nd rfl (by first | exact Or.inl rfl | exact Or.inr rfl) (pe_c c__law_cell hr (by decide) rfl (pa_cons (pv 0) (pa_cons (pv 1) pa_nil))))
      (pss_one (ps_ret (pe_lst (pa_cons (pe_op op_mod (pe_callTy call_int1 (by rfl) fx.b_int (by decide +kernel) (pa_cons (pe_callB (call_max2 rfl) (by rfl) fx.b_max (by decide +kernel) (pa_cons (pe_op op_sub (pv 2) (pe_op op_powW pe_int pe_int)) (pa_cons pe_int pa_nil))) pa_nil)) (pe_op op_powW (pe_op op_powW pe_int pe_int) pe_int)) (pa_cons (pe_op op_mod (pe_callTy call_int1 (by rfl) fx.b_int (by decide +kernel) (pa_cons (pv 2) pa_nil)) pe_int) (pa_cons (pe_op op_mul pe_int (pv 1)) pa_nil)))))))), ?_⟩)
  · exact spN_len (n := 2) (by rintro ds d ⟨_, _, _, rfl, _⟩; rfl)
  · obtain ⟨F1, ds, sf, r, ⟨es0, ns, x0, s0, rfl, _⟩, q⟩ := h
    have sk := sok0 (N := nm__law_generator) sf r
    refine st_nx sk (st_set (i := 2) (ev_call (ea2 (ev_var (i := 0) rfl) (ev_var (i := 1) rfl)) ⟨ns, 0, rfl, rfl, rfl⟩)) fun σ' F' H' s' f' => ?_
    refine en_lst (K := K) (ds := [.int (max (ns.headD 0 - 10 ^ (18 : Int).toNat) 0 % (10 ^ (60 : Int).toNat) ^ (10 : Int).toNat), .int (ns.headD 0 % 2147483647), .int (1000 * 0)]) (ea3 (ev_mod (by decide +kernel) (ev_intc (ev_max (ev_sub (ev_var (i := 2) rfl) (ev_powW (by unfold CPowW; decide +kernel) ev_int ev_int)) ev_int)) (ev_powW (by unfold CPowW; decide +kernel) (ev_powW (by unfold CPowW; decide +kernel) ev_int ev_int) ev_int)) (ev_mod (by decide) (ev_intc (ev_var (i := 2) rfl)) ev_int) (ev_mulS (.inl (by decide)) ev_int (ev_var (i := 1) rfl))) (by show 3 ≤ sizeLine; decide) _ _ F' H' σ' s' _ fun p vs F2 H2 t2 h1 h2 h3 r3 => ?_
    exact q _ p vs F2 H2 ⟨ns, _, _, rfl, rfl, Int.emod_nonneg _ (by decide +kernel), Int.emod_nonneg _ (by decide), by have := Int.emod_lt_of_pos (ns.headD 0) (b := 2147483647) (by decide); omega⟩ (s'.st.trans t2) (s'.st.hh.free h1) h2 h3 r3
end
end Cw
set_option maxHeartbeats 4000000
namespace Cw
open PySem PySem.Spec PyProof.Rows L2
open C8 (Cal Met Mak pe_c pe_mk pe_mt pe_mt0 pe_gc InsC call_isC)
section
variable {P : Program} {w : World} {K : Fg} {mg : Str → Option Value} {base : Heap} {f : Addr} {fd : FuncData}
abbrev s__law_any_curve : Stmt := top 64
abbrev nm__law_any_curve : List Str := ["generator", "p", "size", "found", "turn", "drawn", "at"]
theorem sc__law_any_curve : FnScope nm__law_any_curve ["generator"] (defScope s__law_any_curve) := ⟨rfl, rfl, rfl, by decide +kernel, rfl, by decide +kernel, by decide +kernel⟩
theorem ok__law_any_curve (fx : Fx K mg) (c__law_random : Cal P w K mg base 2 "_law_random" (spG K 1 p__law_random) []) (c__law_common : Cal P w K mg base 4 "_law_common" (spD K p__law_common) []) (c__law_fall : Cal P w K mg base 2 "_law_fall" (spD K p__law_fall) []) (F : FunD K "_law_any_curve" "_law_any_curve" (defArgs s__law_any_curve) (defBody s__law_any_curve) (defScope s__law_any_curve) [] [] f fd) : FnOk P w K mg base CX0 5 f fd ["generator"] (spG K 86 p__law_any_curve) := by
  refine F.ok sc__law_any_curve ?_ (fun cdv A outer s H vs Q E hr h => ⟨_, PSs.nox ((pss_cons (ps_asg (pe_tup (pa_cons (pe_ix (ixl K) (pe_lst (pa_cons pe_int (pa_cons pe_int (pa_cons pe_int (pa_cons pe_int (pa_cons pe_int pa_nil)))))) (pe_c c__law_random hr (by decide) rfl (pa_cons (pv 0) (pa_cons pe_int pa_nil))) (fun _ _ => rfl)) (pa_cons (pe_ix (ixl K) (pe_lst (pa_cons pe_int (pa_cons pe_int (pa_cons pe_int (pa_cons pe_int (pa_cons pe_int (pa_cons pe_int pa_nil))))))) (pe_c c__law_random hr (by decide) rfl (pa_cons (pv 0) (pa_cons pe_int pa_nil))) (fun _ _ => rfl)) pa_nil))) (pgt (n := 2) K rfl (pgs_cons (pg_name (i := 1) sc__law_any_curve.nd rfl (by first | exact Or.inl rfl | exact Or.inr rfl)) (pgs_cons (pg_name (i := 2) sc__law_any_curve.nd rfl (by first | exact Or.inl rfl | exact Or.inr rfl)) pgs_nil))))
      (pss_cons (ps_set (i := 3) sc__law_any_curve.nd rfl (by first | exact Or.inl rfl | exact Or.inr rfl) (pe_lst (pa_cons pe_int (pa_cons pe_int pa_nil))))
      (pss_cons (ps_for PassesOwn.never rfl (pi_range1 (by rfl) fx.b_range (pa_cons pe_int pa_nil)) (pg_name (i := 4) sc__law_any_curve.nd rfl (by first | exact Or.inl rfl | exact Or.inr rfl))
      (pss_cons (ps_set (i := 5) sc__law_any_curve.nd rfl (by first | exact Or.inl rfl | exact Or.inr rfl) (pe_op op_cat (pe_lc (own := [("at", 6)]) rfl sc__law_any_curve.nd (pi_range1 (by rfl) fx.b_range (pa_cons (pv 2) pa_nil)) (blkOk_by (N := nm__law_any_curve) (sc := defScope s__law_any_curve) (by decide +kernel)) (fun _ _ _ _ _ => (pg_name (i := 6) sc__law_any_curve.nd rfl (by first | exact Or.inl rfl | exact Or.inr rfl))) (fun _ _ _ _ _ => pts_nil) (fun _ _ _ _ _ => (pe_c c__law_random hr (by decide) rfl (pa_cons (pv 0) (pa_cons (pv 1) pa_nil))))) (pe_lst (pa_cons pe_int pa_nil))))
      (pss_one (ps_if (PW.pt (pw_and (pt_cmpR op_eq (pe_callB (lenS K) (by rfl) fx.b_len (by decide +kernel) (pa_cons (pv 3) pa_nil)) pe_int (nomark _)) (pw_and1 (pt_cmpR op_eq (pe_callB (lenS K) (by rfl) fx.b_len (by decide +kernel) (pa_cons (pe_c c__law_common hr (by decide) rfl (pa_cons (pv 1) (pa_cons (pv 5) (pa_cons (pe_c c__law_fall hr (by decide) rfl (pa_cons (pv 1) (pa_cons (pv 5) pa_nil))) pa_nil)))) pa_nil)) pe_int (nomark _))))) (pss_one (ps_set (i := 3) sc__law_any_curve.nd rfl (by first | exact Or.inl rfl | exact Or.inr rfl) (pv 5))) pss_nil))))
      (pss_one (ps_ret (pe_tup (pa_cons (pv 1) (pa_cons (pv 3) pa_nil))))))))), ?_⟩)
  · exact spG_len (by rintro ds d ⟨_, rfl, _⟩; rfl)
  · refine run_gen (N := nm__law_any_curve) (fun g ds n hd hn => ?_) vs H Q E h
    obtain ⟨_, _, rfl, _, _⟩ := hd
    have hLM : LM = 1000000 := rfl
    show StG K g 0 _ [.un, .un, .un, .un, .un, .un, .un] n (n + 86) _
    have rnd : ∀ {G : Ctx} {m : Nat} {b : Int} {tb : TE}, EvD K tb G (.int b) → 1 ≤ b → b ≤ 1000 → m + 1 ≤ 2 ^ 30 → EvG K g 0 (tCall (spG K 1 p__law_random) [] C8.E0 (tCons (tVar 0) (tCons tb tNil))) G m (m + 1) (fun d => ∃ v : Int, d = .int v ∧ 0 ≤ v ∧ v < b) := fun hb b1 b2 hm =>
      (eg_call hm (ega_ev (ea1 hb)) fun ds hds => ⟨.int 0, _, 0, hds, ⟨b1, b2⟩, rfl, by omega, by omega⟩).imp fun d ⟨ds, hds, b', v, hb', _, hd, v0, v1⟩ => by
        rw [hds] at hb'
        cases hb'
        exact ⟨v, hd, v0, v1⟩
    refine sg_parT (j := 1) (l := 2) (P1 := fun d => ∃ p : Int, d = .int p ∧ Pm p) (P2 := fun d => ∃ s : Int, d = .int s ∧ (s = 1 ∨ s = 3 ∨ s = 5 ∨ s = 7)) (by decide) (by decide) (eg_op (eg_ev (d := inD [3, 5, 7, 11, 13]) (ev_pub (en_lst (ea_cons ev_int (ea_cons ev_int (ea_cons ev_int (ea_cons ev_int (ea1 ev_int))))) (by show 5 ≤ sizeLine; decide)))) (rnd ev_int (by decide) (by decide) (by omega)) fun a b ha ⟨v, hv, v0, v1⟩ => ?_) (eg_op (eg_ev (d := inD [1, 3, 3, 5, 5, 7]) (ev_pub (en_lst (ea_cons ev_int (ea_cons ev_int (ea_cons ev_int (ea_cons ev_int (ea_cons ev_int (ea1 ev_int)))))) (by show 6 ≤ sizeLine; decide)))) (rnd ev_int (by decide) (by decide) (by omega)) fun a b ha ⟨v, hv, v0, v1⟩ => ?_) fun d e ⟨p, hd, hpm⟩ ⟨s, hs, hs2⟩ => ?_
    · subst ha hv
      have hv' : v = 0 ∨ v = 1 ∨ v = 2 ∨ v = 3 ∨ v = 4 := by omega
      rcases hv' with rfl | rfl | rfl | rfl | rfl
      · exact ⟨.int 3, op_ixLD rfl, 3, rfl, by unfold Pm; decide⟩
      · exact ⟨.int 5, op_ixLD rfl, 5, rfl, by unfold Pm; decide⟩
      · exact ⟨.int 7, op_ixLD rfl, 7, rfl, by unfold Pm; decide⟩
      · exact ⟨.int 11, op_ixLD rfl, 11, rfl, by unfold Pm; decide⟩
      · exact ⟨.int 13, op_ixLD rfl, 13, rfl, by unfold Pm; decide⟩
    · subst ha hv
      have hv' : v = 0 ∨ v = 1 ∨ v = 2 ∨ v = 3 ∨ v = 4 ∨ v = 5 := by omega
      rcases hv' with rfl | rfl | rfl | rfl | rfl | rfl
      · exact ⟨.int 1, op_ixLD rfl, 1, rfl, .inl rfl⟩
      · exact ⟨.int 3, op_ixLD rfl, 3, rfl, .inr (.inl rfl)⟩
      · exact ⟨.int 3, op_ixLD rfl, 3, rfl, .inr (.inl rfl)⟩
      · exact ⟨.int 5, op_ixLD rfl, 5, rfl, .inr (.inr (.inl rfl))⟩
      · exact ⟨.int 5, op_ixLD rfl, 5, rfl, .inr (.inr (.inl rfl))⟩
      · exact ⟨.int 7, op_ixLD rfl, 7, rfl, .inr (.inr (.inr rfl))⟩
    subst hd hs
    have hpp := hpm.pos
    show StG K g 0 _ [.un, .val (.int p), .val (.int s), .un, .un, .un, .un] (n + 1 + 1) (n + 86) _
    refine sg_set (j := 3) (by decide) (eg_ev (d := inD [0, 1]) (ev_pub (en_lst (ea2 ev_int ev_int) (by show 2 ≤ sizeLine; decide)))) fun d hd => ?_
    subst hd
    show StG K g 0 _ [.un, .val (.int p), .val (.int s), .val (inD [0, 1]), .un, .un, .un] (n + 1 + 1) (n + 86) _
    refine sg_seqN (sgn_for (m := 12) (k := 7) (j := 4) (O := fun G' => ∃ f : List Int, CvOk (p, f) ∧ f.length ≤ 8 ∧ G' = [.un, .val (.int p), .val (.int s), .val (inD f), .un, .un, .un]) (by decide) (by decide) ev_int ⟨[0, 1], curve0A hpm, by decide, rfl⟩ fun G' x n' ⟨f, cf, lf, hG⟩ hn' => ?_) fun G' ⟨f, cf, lf, hG⟩ => ?_
    · subst hG
      show StGN K g 0 _ [.un, .val (.int p), .val (.int s), .val (inD f), .val (.int x), .un, .un] n' (n' + 7) _
      refine sgn_setS (j := 5) (P := fun d => ∃ xs : List Int, d = inD (xs ++ [1]) ∧ (∀ x ∈ xs, 0 ≤ x ∧ x < p) ∧ (xs.length : Int) = s) (by decide) (eg_op (eg_lc (M := 7) (k := 1) (n0 := n') (P1 := fun d => d = .int s) (P := fun d => ∃ v : Int, d = .int v ∧ 0 ≤ v ∧ v < p) (by decide) (fun σ _ => List.getElem?_set_ne (by decide)) (by decide) (by decide) (eg_ev (ev_var (i := 2) rfl)) (fun d hd => ⟨s, hd, by omega, by omega⟩) fun x n'' hn'' => rnd (ev_var (i := 1) rfl) (by omega) (by have := hpm.le; omega) (by omega)) (eg_ev (d := inD [1]) (ev_pub (en_lst1 ev_int))) fun a b ⟨m, hm, xs, ha, hl, hx⟩ hb => ?_) fun d ⟨xs, hd, hx, hl⟩ => ?_
      · subst ha hb
        cases hm
        obtain ⟨l, rfl⟩ := ints_of (xs := xs) fun y hy => (hx y hy).imp fun v h => h.1
        rw [List.length_map] at hl
        refine ⟨inD (l ++ [1]), ?_, l, rfl, fun y hy => ?_, hl⟩
        · have := op_catD (K := K) (xs := l.map D.int) (ys := [D.int 1]) (by rw [List.length_map]; exact LMs (by show l.length + 1 ≤ _; omega))
          rw [show inD (l ++ [1]) = .lst (l.map D.int ++ [D.int 1]) by simp]
          exact this
        · obtain ⟨w, hw, w0, w1⟩ := hx (.int y) (List.mem_map.mpr ⟨y, hy, rfl⟩)
          cases hw
          exact ⟨w0, w1⟩
      · subst hd
        have nd : Nrm p (xs ++ [1]) := ⟨fun x h => by
          have := hpm.ge
          rcases List.mem_append.mp h with z | z
          · exact hx x z
          · simp at z; omega, fun _ => by rw [lastI_snoc]; decide⟩
        have hlen : (xs ++ [1]).length = xs.length + 1 := by simp
        have pl := pder_len (p := p) (a := xs ++ [1])
        show StGN K g 0 _ [.un, .val (.int p), .val (.int s), .val (inD f), .val (.int x), .val (inD (xs ++ [1])), .un] (n' + 7 * 1) (n' + 7) _
        refine sgn_if (P := decide ((f.length : Int) = 2) && decide (((lcF p (xs ++ [1]) (pder p (xs ++ [1]))).length : Int) = 1)) (j := 3) (by decide) (eb_and (eb_test (ev_eqI (ev_lenL (ev_var (i := 3) rfl).h) ev_int)) fun _ => eb_test (ev_eqI (ev_lenL (ev_call (ea3 (ev_var (i := 1) rfl) (ev_var (i := 5) rfl) (ev_call (ea2 (ev_var (i := 1) rfl) (ev_var (i := 5) rfl)) ⟨p, xs ++ [1], rfl, hpp, by omega, rfl⟩)) ⟨p, xs ++ [1], _, rfl, ⟨hpm, by omega, by omega, nd, trim_nrm hpp _⟩, rfl⟩).h) ev_int)) (ev_var (i := 5) rfl) (fun z => ?_) fun z => ?_
        · rw [Bool.and_eq_true, decide_eq_true_eq, decide_eq_true_eq] at z
          exact ⟨_, ⟨xs ++ [1], curve_ok7 hpm hx (by omega) (by omega), by omega, rfl⟩, .eq (.eq (.eq (.eq (.un (.un (.un .nil))))))⟩
        · exact ⟨_, ⟨f, cf, lf, rfl⟩, .eq (.eq (.eq (.eq (.un (.un (.un .nil))))))⟩
    · subst hG
      exact sg_ret (eg_ev (d := toldD (p, f)) (ev_tup (ea2 (ev_var (i := 1) rfl) (ev_var (i := 3) rfl)) (by show 2 ≤ sizeLine; decide))) (by omega) fun d hd => ⟨(p, f), rfl, cf, hd⟩
abbrev s__law_right : Stmt := top 73
abbrev nm__law_right : List Str := ["generator", "told", "curve", "lines", "genus", "found", "line", "low", "one", "turn", "numbers", "below", "many", "rank", "at"]
theorem sc__law_right : FnScope nm__law_right ["generator"] (defScope s__law_right) := ⟨rfl, rfl, rfl, by decide +kernel, rfl, by decide +kernel, by decide +kernel⟩
theorem ok__law_right (fx : Fx K mg) (k_descent_matrix : CalK P w K mg base 5 "descent_matrix" "curve" (spX K (p_descent_matrix K))) (k_standing : CalK P w K mg base 5 "standing" "curve" (spD K (p_standing K))) (c__law_any_curve : Cal P w K mg base 5 "_law_any_curve" (spG K 86 p__law_any_curve) []) (c_descent_matrix : Cal P w K mg base 5 "descent_matrix" (spX K (p_descent_matrix K)) []) (c__law_of : Cal P w K mg base 9 "_law_of" (spD K (p__law_of K)) []) (c__law_matrix : Cal P w K mg base 4 "_law_matrix" (spD K p__law_matrix) []) (c__law_told : Cal P w K mg base 10 "_law_told" (spD K (p__law_told K)) []) (c__law_brought : Cal P w K mg base 1 "_law_brought" (spD K p__law_brought) []) (c_standing : Cal P w K mg base 5 "standing" (spD K (p_standing K)) []) (c__law_last_rank : Cal P w K mg base 3 "_law_last_rank" (spD K p__law_last_rank) []) (c__law_random : Cal P w K mg base 2 "_law_random" (spG K 1 p__law_random) []) (c_descent : Cal P w K mg base 12 "descent" (spD K (p_descent K)) []) (c__law_stands : Cal P w K mg base 2 "_law_stands" (spD K p__law_stands) []) (m_Function___eq__ : Met P w K mg base 2 (He.ga K "Function") "__eq__" (spD K (p_Function___eq__ K)) []) (F : FunD K "_law_right" "_law_right" (defArgs s__law_right) (defBody s__law_right) (defScope s__law_right) [] [] f fd) : FnOk P w K mg base CX0 13 f fd ["generator"] (spG K 95 p__law_right78) := by
  refine F.ok sc__law_right ?_ (fun cdv A outer s H vs Q E hr h => ⟨_, PSs.nox ((pss_cons (ps_set (i := 1) sc__law_right.nd rfl (by first | exact Or.inl rfl | exact Or.inr rfl) (pe_c c__law_any_curve hr (by decide) rfl (pa_cons (pv 0) pa_nil)))
      (pss_cons (ps_par (i := 2) (j := 3) (by rfl) sc__law_right.nd rfl rfl (by decide) rfl rfl (pa_cons (pe_c c__law_of hr (by decide) rfl (pa_cons (pv 1) pa_nil)) (pa_cons (pe_c c__law_matrix hr (by decide) rfl (pa_cons (pv 1) pa_nil)) pa_nil)) (by rfl))
      (pss_cons (ps_set (i := 4) sc__law_right.nd rfl (by first | exact Or.inl rfl | exact Or.inr rfl) (pe_callB (lenS K) (by rfl) fx.b_len (by decide +kernel) (pa_cons (pv 3) pa_nil)))
      (pss_cons (ps_set (i := 5) sc__law_right.nd rfl (by first | exact Or.inl rfl | exact Or.inr rfl) (pe_c c_descent_matrix hr (by decide) rfl (pa_cons (pv 2) pa_nil)))
      (pss_cons (ps_if (PW.pt (pw_or (pt_cmpR (opNe K hr.units) (pv 5) (pv 3) (nomark _)) (pw_or1 (pt_cmpR (opNe K hr.units) (pe_ck k_descent_matrix hr (by decide) rfl (pk_cons (pv 2) pk_nil)) (pv 3) (nomark _))))) (pss_one (ps_ret pe_bl)) pss_nil)
      (pss_cons (ps_for PassesOwn.never rfl (pil K (pv 5)) (pg_name (i := 6) sc__law_right.nd rfl (by first | exact Or.inl rfl | exact Or.inr rfl))
      (pss_one (ps_expr (pe_bm PySem.F.plainAttrs_list PySem.F.slot_list_append PySem.F.type_list_append mt_append (pv 6) (pa_cons pe_non pa_nil)))))
      (pss_cons (ps_if (pt_cmpR (opNe K hr.units) (pe_lc (own := [("line", 6)]) rfl sc__law_right.nd (pil K (pv 5)) (blkOk_by (N := nm__law_right) (sc := defScope s__law_right) (by decide +kernel)) (fun _ _ _ _ _ => (pg_name (i := 6) sc__law_right.nd rfl (by first | exact Or.inl rfl | exact Or.inr rfl))) (fun _ _ _ _ _ => pts_nil) (fun _ _ _ _ _ => (pe_callB (lenS K) (by rfl) fx.b_len (by decide +kernel) (pa_cons (pv 6) pa_nil)))) (pe_op op_rep (pe_lst (pa_cons (pe_op op_add (pv 4) pe_int) pa_nil)) (pv 4)) (nomark _)) (pss_one (ps_ret pe_bl)) pss_nil)
      (pss_cons (ps_expr (pe_bm PySem.F.plainAttrs_list PySem.F.slot_list_append PySem.F.type_list_append mt_append (pv 5) (pa_cons pe_non pa_nil)))
      (pss_cons (ps_if (pt_cmpR (opNe K hr.units) (pe_c c_descent_matrix hr (by decide) rfl (pa_cons (pv 2) pa_nil)) (pv 3) (nomark _)) (pss_one (ps_ret pe_bl)) pss_nil)
      (pss_cons (ps_for PassesOwn.never rfl (pi_range1 (by rfl) fx.b_range (pa_cons (pv 4) pa_nil)) (pg_name (i := 7) sc__law_right.nd rfl (by first | exact Or.inl rfl | exact Or.inr rfl))
      (pss_cons (ps_set (i := 8) sc__law_right.nd rfl (by first | exact Or.inl rfl | exact Or.inr rfl) (pe_c c__law_told hr (by decide) rfl (pa_cons (pv 1) (pa_cons (pe_op op_cat (pe_op op_rep (pe_lst (pa_cons pe_int pa_nil)) (pv 7)) (pe_lst (pa_cons pe_int pa_nil))) pa_nil))))
      (pss_one (ps_if (pt_cmpR op_notBl (pe_cmpR (opOwn2 m_Function___eq__ hr (by decide)) (pe_c c_descent hr (by decide) rfl (pa_cons (pv 8) pa_nil)) (pe_c c__law_told hr (by decide) rfl (pa_cons (pv 1) (pa_cons (pe_ix (ixl K) (pv 3) (pv 7) (fun _ _ => rfl)) pa_nil))) (nomark _)) pe_bl (nomark _)) (pss_one (ps_ret pe_bl)) pss_nil))))
      (pss_cons (ps_for PassesOwn.never rfl (pi_range1 (by rfl) fx.b_range (pa_cons (pe_op op_mul pe_int (pe_callTy call_int1 (by rfl) fx.b_int (by decide +kernel) (pa_cons (pe_cmpR op_gt (pv 4) pe_int (nomark _)) pa_nil))) pa_nil)) (pg_name (i := 9) sc__law_right.nd rfl (by first | exact Or.inl rfl | exact Or.inr rfl))
      (pss_cons (ps_setLc (i := 10) (own := [("at", 14)]) rfl sc__law_right.nd rfl rfl (sw_true rfl rfl rfl (by decide +kernel)) (pi_range1 (by rfl) fx.b_range (pa_cons (pv 4) pa_nil)) (blkOk_by (N := nm__law_right) (sc := defScope s__law_right) (by decide +kernel)) (fun _ _ _ _ _ => (pg_name (i := 14) sc__law_right.nd rfl (by first | exact Or.inl rfl | exact Or.inr rfl))) (fun _ _ _ _ _ => pts_nil) (fun _ _ _ _ _ => (pe_c c__law_random hr (by decide) rfl (pa_cons (pv 0) (pa_cons (pe_ix (ixt K) (pv 1) pe_int (fun _ _ => rfl)) pa_nil)))))
      (pss_cons (ps_set (i := 11) sc__law_right.nd rfl (by first | exact Or.inl rfl | exact Or.inr rfl) (pe_c c__law_brought hr (by decide) rfl (pa_cons (pv 1) (pa_cons (pv 3) (pa_cons (pe_c c__law_brought hr (by decide) rfl (pa_cons (pv 1) (pa_cons (pv 3) (pa_cons (pv 10) pa_nil)))) pa_nil)))))
      (pss_one (ps_if (pt_cmpR op_notBl (pe_cmpR (opOwn2 m_Function___eq__ hr (by decide)) (pe_c c_descent hr (by decide) rfl (pa_cons (pe_c c_descent hr (by decide) rfl (pa_cons (pe_c c__law_told hr (by decide) rfl (pa_cons (pv 1) (pa_cons (pv 10) pa_nil))) pa_nil)) pa_nil)) (pe_c c__law_told hr (by decide) rfl (pa_cons (pv 1) (pa_cons (pv 11) pa_nil))) (nomark _)) pe_bl (nomark _)) (pss_one (ps_ret pe_bl)) pss_nil)))))
      (pss_cons (ps_par (i := 12) (j := 13) (by rfl) sc__law_right.nd rfl rfl (by decide) rfl rfl (pa_cons pe_int (pa_cons (pe_c c_standing hr (by decide) rfl (pa_cons (pv 2) pa_nil)) pa_nil)) (by rfl))
      (pss_cons (ps_if (pt_cmpR op_ne (pv 13) (pe_c c__law_last_rank hr (by decide) rfl (pa_cons (pv 1) (pa_cons (pv 3) pa_nil))) (nomark _)) (pss_one (ps_ret pe_bl)) pss_nil)
      (pss_cons (ps_if (PW.pt (pw_or (pt_val (pe_callB (isiS K) (by rfl) fx.b_isinstance (by decide +kernel) (pa_cons (pv 13) (pa_cons (pe_bltn (by rfl) fx.b_bool (by decide +kernel) (show RelV (.ty "bool") _ from rfl)) pa_nil)))) (pw_or (pt_cmpR (opNe K hr.units) (pe_c c_descent_matrix hr (by decide) rfl (pa_cons (pv 2) pa_nil)) (pv 3) (nomark _)) (pw_or (pt_cmpR op_ne (pe_c c_standing hr (by decide) rfl (pa_cons (pv 2) pa_nil)) (pv 13) (nomark _)) (pw_or1 (pt_cmpR (opNe K hr.units) (pe_c c_descent_matrix hr (by decide) rfl (pa_cons (pv 2) pa_nil)) (pv 3) (nomark _))))))) (pss_one (ps_ret pe_bl)) pss_nil)
      (pss_cons (ps_for PassesOwn.never rfl (pi_range1 (by rfl) fx.b_range (pa_cons (pe_callB (call_min2 rfl) (by rfl) fx.b_min (by decide +kernel) (pa_cons (pe_callB (call_max2 rfl) (by rfl) fx.b_max (by decide +kernel) (pa_cons (pv 13) (pa_cons pe_int pa_nil))) (pa_cons pe_int pa_nil))) pa_nil)) (pg_name (i := 9) sc__law_right.nd rfl (by first | exact Or.inl rfl | exact Or.inr rfl))
      (pss_one (ps_set (i := 12) sc__law_right.nd rfl (by first | exact Or.inl rfl | exact Or.inr rfl) (pe_op op_mul (pv 12) (pe_ix (ixt K) (pv 1) pe_int (fun _ _ => rfl))))))
      (pss_one (ps_ret (pe_and (pe_cmpR op_eq (pe_callB call_reprI (by rfl) fx.b_repr (by decide +kernel) (pa_cons (pe_ck k_standing hr (by decide) rfl (pk_cons (pv 2) pk_nil)) pa_nil)) (pe_callB call_reprI (by rfl) fx.b_repr (by decide +kernel) (pa_cons (pv 13) pa_nil)) (nomark _)) (pe_and (pe_chain op_le op_le pe_int (pv 13) (pv 4)) (pe_one (pe_or (pe_and (pe_cmpR op_eq (pv 4) pe_int (nomark _)) (pe_one (pe_cmpR op_gt (pe_ix (ixt K) (pv 1) pe_int (fun _ _ => rfl)) pe_int (nomark _)))) (pe_one (pe_cmpR op_eq (pv 12) (pe_c c__law_stands hr (by decide) rfl (pa_cons (pv 1) (pa_cons (pv 3) pa_nil))) (nomark _))))))))))))))))))))))))), ?_⟩)
  · exact spG_len (by rintro ds d ⟨rfl, _⟩; rfl)
  · refine run_gen (N := nm__law_right) (fun g ds n hd hn => ?_) vs H Q E h
    obtain ⟨_, rfl, _⟩ := hd
    have hLM : LM = 1000000 := rfl
    show StG K g 0 _ [.un, .un, .un, .un, .un, .un, .un, .un, .un, .un, .un, .un, .un, .un, .un] n (n + 95) _
    refine sg_set (j := 1) (P := fun d => ∃ c : Cur, d = toldD c ∧ CvOk c) (by decide) ((eg_call (by omega) ega_nil fun ds hds => ⟨toldD (3, [0, 1]), (3, [0, 1]), hds, curve0A (by unfold Pm; decide), rfl⟩).imp fun d ⟨ds, hds, c, _, cv, hd⟩ => ⟨c, hd, cv⟩) fun d ⟨c, hd, cv⟩ => ?_
    subst hd
    have pm := cv.pm
    have hp := cv.pos
    have hpl := pm.le
    have hpg := pm.ge
    obtain ⟨hcl, hg⟩ := gs_len cv
    have hA := mat_ok cv
    have hAl := hA.ln
    have hRl := rank_le pm (raised_ok (by omega) (Int.natCast_nonneg (gs c)) hA).1
    have tin : ∀ n : List Int, FnIn c (tolT c n) (max n.length 8 + 1) := fun n => least_in cv nrm_nil (trim_nrm hp _) cv.nr (fun z => by rw [z, List.length_nil] at hcl; omega) (by simp) (Nat.le_trans trim_len (Nat.le_max_left _ _)) (by omega)
    show StG K g 0 _ [.un, .val (toldD c), .un, .un, .un, .un, .un, .un, .un, .un, .un, .un, .un, .un, .un] (n + 86) (n + 95) _
    refine sg_par (j := 2) (l := 3) (P1 := fun d => d = cvD K c) (P2 := fun d => d = mxD (matL c)) (by decide) (by decide) (eg_ev (ev_call (ea1 (ev_var (i := 1) rfl)) ⟨c, rfl, cv, rfl⟩)) (eg_ev (ev_call (ea1 (ev_var (i := 1) rfl)) ⟨c, rfl, cv, rfl⟩)) fun d e hd he => ?_
    subst hd he
    refine sg_set (j := 4) (P := fun d => d = .int (gs c)) (by decide) (eg_ev (EvD.cast (ev_lenL (ev_var (i := 3) rfl).h) (by rw [hAl]))) fun d hd => ?_
    subst hd
    show StG K g 0 _ [.un, .val (toldD c), .val (cvD K c), .val (mxD (matL c)), .val (.int (gs c)), .un, .un, .un, .un, .un, .un, .un, .un, .un, .un] (n + 86) (n + 95) _
    have dm : ∀ {G : Ctx} {E : XK} {tr : TE}, EvD K tr G (cvD K c) → EvD K (tCall (spX K (p_descent_matrix K)) [] E (tCons tr tNil)) G (mxD (matL c)) := fun h => ev_pub (en_callX (ea1 h) ⟨c, rfl, cv, rfl⟩)
    have neq : ∀ {G : Ctx} {ta tb : TE}, EvD K ta G (mxD (matL c)) → EvD K tb G (mxD (matL c)) → EvB K (tTest (tOp (rNeD K) ta tb)) G false := fun h k => (eb_test (ev_neL (a := matL c) (b := matL c) (like_lst like_ints) (by decide) h.h k.h)).cast (by simp)
    refine sg_mid (A := matL c) (j := 5) (l := 6) (by decide) (by decide) (by decide) rfl rfl (ea1 (ev_var (i := 2) rfl)) ⟨c, rfl, cv, rfl⟩ (by rw [hAl]; exact Nat.lt_of_le_of_lt hg (by decide)) (fun a ha => by rw [hA.rl a ha]; exact Nat.lt_of_le_of_lt hg (by decide)) (eb_or (x := false) (y := false) (neq (ev_var (i := 5) rfl) (ev_var (i := 3) rfl)) fun _ => neq (ev_ckX (ea1 (ev_var (i := 2) rfl)) ⟨c, rfl, cv, rfl⟩) (ev_var (i := 3) rfl)) ?_ ?_
    · refine (eb_test (ev_neL (a := (matL c).map fun r => ((r.length : Int) + 1)) (b := List.replicate (gs c) ((gs c : Int) + 1)) like_ints (by decide) (ev_pub (en_lcT (as := matL c) (enc := fun r : List Int => D.lst (r.map D.int ++ [.non])) D.int (fun r : List Int => (r.length : Int) + 1) (LMs (by omega)) (it_list (ev_var (i := 5) rfl)) fun pre r post e => ⟨_, _, tg_name, fun _ h => h, EvD.cast (ev_len (ev_var rfl).h) (by simp)⟩)).h (EvD.cast (ev_pub (en_repT (x := ((gs c : Int) + 1)) (n := (gs c : Int)) (by omega) (ev_pub (en_lst1 (ev_add (ev_var (i := 4) rfl) ev_int))) (ev_var (i := 4) rfl))) (by rw [Int.toNat_natCast])).h)).cast ?_
      rw [Bool.not_eq_false', decide_eq_true_eq, ← hAl]
      exact List.eq_replicate_iff.mpr ⟨by rw [List.length_map], fun b hb => by
        obtain ⟨r, hr, rfl⟩ := List.mem_map.mp hb
        rw [hA.rl r hr, hAl]⟩
    refine sg_ifX (b := false) (neq (dm (ev_var (i := 2) rfl)) (ev_var (i := 3) rfl)) (fun h => nomatch h) fun _ => sg_next ?_
    have rnd : ∀ {G : Ctx} {m : Nat} {b : Int} {tb : TE}, EvD K tb G (.int b) → 1 ≤ b → b ≤ 1000 → m + 1 ≤ 2 ^ 30 → EvG K g 0 (tCall (spG K 1 p__law_random) [] C8.E0 (tCons (tVar 0) (tCons tb tNil))) G m (m + 1) (fun d => ∃ v : Int, d = .int v ∧ 0 ≤ v ∧ v < b) := fun hb b1 b2 hm =>
      (eg_call hm (ega_ev (ea1 hb)) fun ds hds => ⟨.int 0, _, 0, hds, ⟨b1, b2⟩, rfl, by omega, by omega⟩).imp fun d ⟨ds, hds, b', v, hb', _, hd, v0, v1⟩ => by
        rw [hds] at hb'
        cases hb'
        exact ⟨v, hd, v0, v1⟩
    let O : Ctx → Prop := fun G' => G' = [.un, .val (toldD c), .val (cvD K c), .val (mxD (matL c)), .val (.int (gs c)), .un, .un, .un, .un, .un, .un, .un, .un, .un, .un]
    have told : ∀ {G : Ctx} {ta : TE} {v : List Int}, G[1]? = some (.val (toldD c)) → v.length ≤ gs c → EvD K ta G (inD v) → EvD K (tCall (spD K (p__law_told K)) [] C8.E0 (tCons (tVar 1) (tCons ta tNil))) G (fnD K c (tolT c v)) := fun h1 hv h => ev_call (ea2 (ev_var h1) h) ⟨c, _, rfl, cv, by omega, rfl⟩
    have desc : ∀ {G : Ctx} {ta : TE} {v : List Int}, v.length ≤ gs c → EvD K ta G (fnD K c (tolT c v)) → EvD K (tCall (spD K (p_descent K)) [] C8.E0 (tCons ta tNil)) G (fnD K c (tolT c (brgt c.1 (matL c) v))) := fun {G ta v} hv h => EvD.cast (ev_call (ea1 h) ⟨c, tolT c v, rfl, ⟨cv, (tin v).mono (by omega)⟩, rfl⟩) (by rw [last_tol cv hv])
    have same : ∀ {G : Ctx} {ta tb : TE} {T : Tri}, EvD K ta G (fnD K c T) → EvD K tb G (fnD K c T) → EvB K (tTest (tOp rNotB (tOp (rOwn2 K (He.ga K "Function") (p_Function___eq__ K)) ta tb) (tC (.bl true)))) G false := fun {G ta tb T} h k => (eb_test (ev_notT (ev_own2 h k ⟨c, T, T, rfl, trivial, rfl⟩))).cast (by simp)
    refine sg_seqN (sgn_forX (m := gs c) (k := 0) (j := 7) (O := O) (by omega) (by decide) (ev_var (i := 4) rfl) rfl fun G' low n' hlow hG _ => ?_) fun G' hG => ?_
    · subst hG
      have hu : (List.replicate low (0 : Int) ++ [1]).length ≤ gs c := by rw [List.length_append, List.length_replicate]; simp; omega
      show StGN K g 0 _ [.un, .val (toldD c), .val (cvD K c), .val (mxD (matL c)), .val (.int (gs c)), .un, .un, .val (.int low), .un, .un, .un, .un, .un, .un, .un] n' (n' + 0) _
      refine sgn_setS (j := 8) (P := fun d => d = fnD K c (tolT c (List.replicate low 0 ++ [1]))) (by decide) (eg_ev (told rfl hu (ev_pub (en_catT (enc := D.int) (by rw [List.length_replicate]; simp; omega) (EvD.cast (ev_pub (en_repT (enc := D.int) (x := 0) (n := (low : Int)) (by omega) (ev_pub (en_lst1 ev_int)) (ev_var (i := 7) rfl))) (by rw [Int.toNat_natCast])) (ev_pub (en_lst1 ev_int)))))) fun d hd => ?_
      subst hd
      refine sgn_ifF (same (desc hu (ev_var (i := 8) rfl)) (told (v := brgt c.1 (matL c) (List.replicate low 0 ++ [1])) rfl (by rw [brgt_len, hAl]; exact Nat.le_refl _) ?_)) ⟨_, rfl, .eq (.eq (.eq (.eq (.eq (.eq (.eq (.un (.un (.eq (.eq (.eq (.eq (.eq (.eq .nil))))))))))))))⟩
      rw [unit_brgt cv hlow, ← mat_row hlow]
      exact ev_ixL (j := (low : Int)) (d := inD (row (matL c) low)) (by rw [atI_map, at_row' (by omega) (by omega), Int.toNat_natCast]; rfl) (ev_var (i := 3) rfl) (ev_var (i := 7) rfl)
    · subst hG
      refine sg_seqN (sgn_forX (m := 3 * if 0 < gs c then 1 else 0) (k := 3) (j := 9) (O := O) (by split <;> decide) (by decide) (EvD.cast (ev_mulS (.inr (by split <;> decide)) ev_int (ev_cb (ea1 (ev_gt (ev_var (i := 4) rfl) ev_int)) oa_intB)) (by
        by_cases z : 0 < gs c
        · rw [if_pos z, if_pos (by simpa using z)]; rfl
        · rw [if_neg z, if_neg (by simpa using z)]; rfl)) rfl fun G' t n' _ hG hn' => ?_) fun G' hG => ?_
      · subst hG
        have hm9 : (3 * if 0 < gs c then 1 else 0) * 3 ≤ 9 := by split <;> omega
        show StGN K g 0 _ [.un, .val (toldD c), .val (cvD K c), .val (mxD (matL c)), .val (.int (gs c)), .un, .un, .un, .un, .val (.int t), .un, .un, .un, .un, .un] n' (n' + 3) _
        refine sgn_setS (j := 10) (P := fun d => ∃ v : List Int, d = inD v ∧ VOk c.1 (gs c) v) (by decide) ((eg_lc (M := 3) (k := 1) (n0 := n') (P1 := fun d => d = .int (gs c)) (P := fun d => ∃ v : Int, d = .int v ∧ 0 ≤ v ∧ v < c.1) (by decide) (fun σ _ => List.getElem?_set_ne (by decide)) (by decide) (by decide) (eg_ev (ev_var (i := 4) rfl)) (fun d hd => ⟨gs c, hd, by omega, by omega⟩) fun x n'' hn'' => rnd (ev_tix0 (a := .int c.1) (ev_var (i := 1) rfl)) (by omega) (by omega) (by omega)).imp fun d ⟨m, hm, xs, hd, hl, hx⟩ => ?_) fun d ⟨v, hd, hv⟩ => ?_
        · cases hm
          obtain ⟨l, rfl⟩ := ints_of (xs := xs) fun y hy => (hx y hy).imp fun v h => h.1
          rw [List.length_map] at hl
          refine ⟨l, hd, by omega, fun y hy => ?_⟩
          obtain ⟨w, hw, w0, w1⟩ := hx (.int y) (List.mem_map.mpr ⟨y, hy, rfl⟩)
          cases hw
          exact ⟨w0, w1⟩
        · subst hd
          have bro : ∀ {G : Ctx} {ta : TE} {v : List Int}, G[1]? = some (.val (toldD c)) → G[3]? = some (.val (mxD (matL c))) → VOk c.1 (gs c) v → EvD K ta G (inD v) → EvD K (tCall (spD K p__law_brought) [] C8.E0 (tCons (tVar 1) (tCons (tVar 3) (tCons ta tNil)))) G (inD (brgt c.1 (matL c) v)) := fun h1 h3 hv h => ev_call (ea3 (ev_var h1) (ev_var h3) h) ⟨c, gs c, matL c, _, rfl, pm, hg, hA, by rw [hv.1]; exact hg, hv.2, rfl⟩
          have hv1 := brgt_vok (n := v) hp hA
          show StGN K g 0 _ [.un, .val (toldD c), .val (cvD K c), .val (mxD (matL c)), .val (.int (gs c)), .un, .un, .un, .un, .val (.int t), .val (inD v), .un, .un, .un, .un] (n' + 3 * 1) (n' + 3) _
          refine sgn_setS (j := 11) (P := fun d => d = inD (brgt c.1 (matL c) (brgt c.1 (matL c) v))) (by decide) (eg_ev (bro rfl rfl hv1 (bro rfl rfl hv (ev_var (i := 10) rfl)))) fun d hd => ?_
          subst hd
          exact sgn_ifF (same (desc (Nat.le_of_eq hv1.1) (desc (Nat.le_of_eq hv.1) (told rfl (Nat.le_of_eq hv.1) (ev_var (i := 10) rfl)))) (told rfl (Nat.le_of_eq (brgt_vok hp hA).1) (ev_var (i := 11) rfl))) ⟨_, rfl, .eq (.eq (.eq (.eq (.eq (.eq (.eq (.eq (.eq (.un (.un (.un (.eq (.eq (.eq .nil))))))))))))))⟩
      · subst hG
        have hm9 : (3 * if 0 < gs c then 1 else 0) * 3 ≤ 9 := by split <;> omega
        refine StG.imp (sg_rest (d := .bl true) (by omega) ?_) fun d hd => ⟨rfl, hd⟩
        let rk : Nat := rank c.1 (mxRaised c.1 (matL c) (gs c))
        have hrk : rk ≤ gs c := hRl
        have stand : ∀ {G : Ctx} {E : XK} {tr : TE}, EvD K tr G (cvD K c) → EvD K (tCall (spD K (p_standing K)) [] E (tCons tr tNil)) G (.int rk) := fun h => ev_call (ea1 h) ⟨c, rfl, cv, rfl⟩
        refine st_seq (st_par (em_v ev_int) (em_v (stand (ev_var (i := 2) rfl))) (fun h => nomatch h) (fun h => nomatch h) (by decide)) ?_
        show StD K _ [.un, .val (toldD c), .val (cvD K c), .val (mxD (matL c)), .val (.int (gs c)), .un, .un, .un, .un, .un, .un, .un, .val (.int 1), .val (.int rk), .un] _
        refine st_ifS (x := false) ((eb_test (ev_neI (i := (rk : Int)) (j := (rk : Int)) (ev_var (i := 13) rfl) (ev_call (ea2 (ev_var (i := 1) rfl) (ev_var (i := 3) rfl)) (q__law_last_rank (last_rank_is c pm hg hA))))).cast (by simp)) (fun h => nomatch h) fun _ => st_seqN ?_
        refine st_ifS (x := false) (eb_or (x := false) (y := false) (eb_val (ev_isi (m := "int") (b := false) (ev_var (i := 13) rfl) ty_int (by decide +kernel))) fun _ => eb_or (x := false) (y := false) (neq (dm (ev_var (i := 2) rfl)) (ev_var (i := 3) rfl)) fun _ => eb_or (x := false) (y := false) ((eb_test (ev_neI (stand (ev_var (i := 2) rfl)) (ev_var (i := 13) rfl))).cast (by simp)) fun _ => neq (dm (ev_var (i := 2) rfl)) (ev_var (i := 3) rfl)) (fun h => nomatch h) fun _ => st_seqN ?_
        refine st_seq (st_for (S := Nat) (as := rangeI 0 rk) (enc := D.int) (Gs := fun m => [.un, .val (toldD c), .val (cvD K c), .val (mxD (matL c)), .val (.int (gs c)), .un, .un, .un, .un, .un, .un, .un, .val (.int ((c.1.toNat ^ m : Nat) : Int)), .val (.int rk), .un]) (step := fun m _ => m + 1) (s0 := 0) ?_ fun pre x post e => ⟨_, _, tg_name, ?_⟩) ?_
        · have : (min (max (rk : Int) 0) 3).toNat = rk := by omega
          refine cast ?_ (it_rng1 (K := K) (n := min (max (rk : Int) 0) 3) (G := [.un, .val (toldD c), .val (cvD K c), .val (mxD (matL c)), .val (.int (gs c)), .un, .un, .un, .un, .un, .un, .un, .val (.int 1), .val (.int rk), .un]) (by omega) (ev_min (ev_max (ev_var (i := 13) rfl) ev_int) ev_int))
          rw [this]; rfl
        · have hl : pre.length < rk := by
            have := congrArg List.length e
            rw [rangeI_len, List.length_append, List.length_cons] at this
            omega
          have hpre : pre.foldl (fun m _ => m + 1) 0 = pre.length := by
            have gen : ∀ (l : List Int) (m : Nat), l.foldl (fun m _ => m + 1) m = m + l.length := by
              intro l
              induction l with
              | nil => intro m; rfl
              | cons a l ih => intro m; rw [List.foldl_cons, ih, List.length_cons]; omega
            rw [gen, Nat.zero_add]
          rw [hpre]
          have h3 := pow_le (g := pre.length) pm (by omega)
          refine StD.lp (StD.weak (st_set (ev_mulS (.inr (by omega)) (ev_var (i := 12) rfl) (ev_tix0 (a := .int c.1) (ev_var (i := 1) rfl)))) ?_)
          have : ((c.1.toNat ^ (pre.length + 1) : Nat) : Int) = ((c.1.toNat ^ pre.length : Nat) : Int) * c.1 := by rw [Nat.pow_succ, Int.natCast_mul, Int.toNat_of_nonneg (by omega)]
          rw [this]
          exact .eq (.eq (.eq (.eq (.eq (.eq (.eq (.eq (.eq (.un (.eq (.eq (.eq (.eq (.eq .nil))))))))))))))
        have hlen : (rangeI 0 rk).foldl (fun m _ => m + 1) 0 = rk := by
          have gen : ∀ (l : List Int) (m : Nat), l.foldl (fun m _ => m + 1) m = m + l.length := by
            intro l
            induction l with
            | nil => intro m; rfl
            | cons a l ih => intro m; rw [List.foldl_cons, ih, List.length_cons]; omega
          rw [gen, Nat.zero_add, rangeI_len]
        rw [hlen]
        refine st_ret ((ev_andV (x := true) (y := true) (ev_eqS (x := (toString (rk : Int) : String)) (ev_reprI (a := (rk : Int)) (by omega) (ev_ck (ea1 (ev_var (i := 2) rfl)) ⟨c, rfl, cv, rfl⟩)) (ev_reprI (by omega) (ev_var (i := 13) rfl))) fun _ => (ev_andV (x := decide ((0 : Int) ≤ (rk : Int)) && decide ((rk : Int) ≤ (gs c : Int))) (y := true) (ev_chainI ev_int (ev_var (i := 13) rfl) (ev_var (i := 4) rfl)) fun _ => ?_).cast ?_).cast rfl)
        · by_cases z : (decide ((gs c : Int) = 3) && decide ((5 : Int) < c.1)) = true
          · exact (ev_orV (x := true) (y := true) ((ev_andV (ev_eqI (ev_var (i := 4) rfl) ev_int) fun _ => ev_gt (ev_tix0 (a := .int c.1) (ev_var (i := 1) rfl)) ev_int).cast (by rw [z])) fun h => nomatch h).cast rfl
          · exact (ev_orV (x := false) (y := true) ((ev_andV (ev_eqI (ev_var (i := 4) rfl) ev_int) fun _ => ev_gt (ev_tix0 (a := .int c.1) (ev_var (i := 1) rfl)) ev_int).cast (by rw [Bool.not_eq_true] at z; rw [z])) fun _ => (ev_eqI (ev_var (i := 12) rfl) (ev_call (ea2 (ev_var (i := 1) rfl) (ev_var (i := 3) rfl)) (q__law_stands (stands_is c pm hg hA)))).cast ((show ∀ z : Int, D.bl (decide (z = z)) = D.bl true from fun z => by simp) _)).cast rfl
        · simp; omega
end
end Cw
set_option maxHeartbeats 4000000
namespace Cw
open PySem PySem.Spec PyProof.Rows L2
open C8 (Cal Met Mak pe_c pe_mk pe_mt pe_mt0 pe_gc InsC call_isC)
section
variable {P : Program} {w : World} {K : Fg} {mg : Str → Option Value} {base : Heap} {f : Addr} {fd : FuncData}
abbrev s_law : Stmt := top 74
abbrev nm_law : List Str := ["script", "index", "seven", "five", "two", "plain"]
theorem sc_law : FnScope nm_law ["script"] (defScope s_law) := ⟨rfl, rfl, rfl, by decide +kernel, rfl, by decide +kernel, by decide +kernel⟩
theorem ok_law (fx : Fx K mg) (c__law_right : Cal P w K mg base 13 "_law_right" (spG K 95 p__law_right78) []) (c_descent_matrix : Cal P w K mg base 5 "descent_matrix" (spX K (p_descent_matrix K)) []) (c_standing : Cal P w K mg base 5 "standing" (spD K (p_standing K)) []) (c__law_generator : Cal P w K mg base 2 "_law_generator" (spN K p__law_generator) []) (m_Curve : Mak P w K mg base 7 "Curve" (He.ga K "Curve") (spI K (He.ga K "Curve") (p_Curve___init__ K)) []) (F : FunD K "law" "law" (defArgs s_law) (defBody s_law) (defScope s_law) [] [] f fd) : FnOk P w K mg base CX0 14 f fd ["script"] (spD K p_law) := by
  refine F.ok sc_law (spD_len (n := 1) ?_) (fun cdv A outer s H vs Q E hr h => ⟨_, PSs.nox ((pss_cons (ps_for PassesOwn.never rfl (pi_range1 (by rfl) fx.b_range (pa_cons pe_int pa_nil)) (pg_name (i := 1) sc_law.nd rfl (by first | exact Or.inl rfl | exact Or.inr rfl))
      (pss_one (ps_if (pt_not (pt_val (pe_c c__law_right hr (by decide) rfl (pa_cons (pe_c c__law_generator hr (by decide) rfl (pa_cons (pv 0) (pa_cons (pv 1) pa_nil))) pa_nil)))) (pss_one (ps_ret pe_bl)) pss_nil)))
      (pss_cons (ps_par (i := 2) (j := 3) (by rfl) sc_law.nd rfl rfl (by decide) rfl rfl (pa_cons (pe_mk m_Curve hr (by decide) rfl (pa_cons pe_int (pa_cons (pe_lst (pa_cons pe_int (pa_cons pe_int (pa_cons pe_int (pa_cons pe_int (pa_cons pe_int (pa_cons pe_int pa_nil))))))) pa_nil))) (pa_cons (pe_mk m_Curve hr (by decide) rfl (pa_cons pe_int (pa_cons (pe_lst (pa_cons pe_int (pa_cons pe_int (pa_cons pe_int (pa_cons pe_int (pa_cons pe_int (pa_cons pe_int (pa_cons pe_int (pa_cons pe_int pa_nil))))))))) pa_nil))) pa_nil)) (by rfl))
      (pss_cons (ps_if (PW.pt (pw_or (pt_cmpR (opNe K hr.units) (pe_c c_descent_matrix hr (by decide) rfl (pa_cons (pe_mk m_Curve hr (by decide) rfl (pa_cons pe_int (pa_cons (pe_lst (pa_cons pe_int (pa_cons pe_int (pa_cons pe_int (pa_cons pe_int pa_nil))))) pa_nil))) pa_nil)) (pe_lst (pa_cons (pe_lst (pa_cons pe_int pa_nil)) pa_nil)) (nomark _)) (pw_or (pt_cmpR (opNe K hr.units) (pe_c c_descent_matrix hr (by decide) rfl (pa_cons (pe_mk m_Curve hr (by decide) rfl (pa_cons pe_int (pa_cons (pe_lst (pa_cons pe_int (pa_cons pe_int (pa_cons pe_int (pa_cons pe_int pa_nil))))) pa_nil))) pa_nil)) (pe_lst (pa_cons (pe_lst (pa_cons pe_int pa_nil)) pa_nil)) (nomark _)) (pw_or1 (pt_cmpR (opNe K hr.units) (pe_c c_descent_matrix hr (by decide) rfl (pa_cons (pv 2) pa_nil)) (pe_lst (pa_cons (pe_lst (pa_cons pe_int (pa_cons pe_int pa_nil))) (pa_cons (pe_lst (pa_cons pe_int (pa_cons pe_int pa_nil))) pa_nil))) (nomark _)))))) (pss_one (ps_ret pe_bl)) pss_nil)
      (pss_cons (ps_if (PW.pt (pw_or (pt_cmpR (opNe K hr.units) (pe_c c_descent_matrix hr (by decide) rfl (pa_cons (pe_mk m_Curve hr (by decide) rfl (pa_cons pe_int (pa_cons (pe_lst (pa_cons pe_int (pa_cons pe_int (pa_cons pe_int (pa_cons pe_int (pa_cons pe_int (pa_cons pe_int pa_nil))))))) pa_nil))) pa_nil)) (pe_lst (pa_cons (pe_lst (pa_cons pe_int (pa_cons pe_int pa_nil))) (pa_cons (pe_lst (pa_cons pe_int (pa_cons pe_int pa_nil))) pa_nil))) (nomark _)) (pw_or (pt_cmpR op_ne (pe_c c_standing hr (by decide) rfl (pa_cons (pe_mk m_Curve hr (by decide) rfl (pa_cons pe_int (pa_cons (pe_lst (pa_cons pe_int (pa_cons pe_int (pa_cons pe_int (pa_cons pe_int (pa_cons pe_int (pa_cons pe_int pa_nil))))))) pa_nil))) pa_nil)) pe_int (nomark _)) (pw_or1 (pt_cmpR op_ne (pe_c c_standing hr (by decide) rfl (pa_cons (pv 2) pa_nil)) pe_int (nomark _)))))) (pss_one (ps_ret pe_bl)) pss_nil)
      (pss_cons (ps_if (PW.pt (pw_or (pt_cmpR (opNe K hr.units) (pe_c c_descent_matrix hr (by decide) rfl (pa_cons (pv 3) pa_nil)) (pe_lst (pa_cons (pe_lst (pa_cons pe_int (pa_cons pe_int (pa_cons pe_int pa_nil)))) (pa_cons (pe_lst (pa_cons pe_int (pa_cons pe_int (pa_cons pe_int pa_nil)))) (pa_cons (pe_lst (pa_cons pe_int (pa_cons pe_int (pa_cons pe_int pa_nil)))) pa_nil)))) (nomark _)) (pw_or1 (pt_cmpR op_ne (pe_c c_standing hr (by decide) rfl (pa_cons (pv 3) pa_nil)) pe_int (nomark _))))) (pss_one (ps_ret pe_bl)) pss_nil)
      (pss_cons (ps_par (i := 4) (j := 5) (by rfl) sc_law.nd rfl rfl (by decide) rfl rfl (pa_cons (pe_mk m_Curve hr (by decide) rfl (pa_cons pe_int (pa_cons (pe_lst (pa_cons pe_int (pa_cons pe_int (pa_cons pe_int (pa_cons pe_int (pa_cons pe_int (pa_cons pe_int pa_nil))))))) pa_nil))) (pa_cons (pe_mk m_Curve hr (by decide) rfl (pa_cons pe_int (pa_cons (pe_lst (pa_cons pe_int (pa_cons pe_int (pa_cons pe_int (pa_cons pe_int pa_nil))))) pa_nil))) pa_nil)) (by rfl))
      (pss_cons (ps_if (PW.pt (pw_or (pt_cmpR (opNe K hr.units) (pe_c c_descent_matrix hr (by decide) rfl (pa_cons (pv 4) pa_nil)) (pe_lst (pa_cons (pe_lst (pa_cons pe_int (pa_cons pe_int pa_nil))) (pa_cons (pe_lst (pa_cons pe_int (pa_cons pe_int pa_nil))) pa_nil))) (nomark _)) (pw_or (pt_cmpR op_ne (pe_c c_standing hr (by decide) rfl (pa_cons (pv 4) pa_nil)) pe_int (nomark _)) (pw_or (pt_cmpR (opNe K hr.units) (pe_c c_descent_matrix hr (by decide) rfl (pa_cons (pv 5) pa_nil)) (pe_lst (pa_cons (pe_lst (pa_cons pe_int pa_nil)) pa_nil)) (nomark _)) (pw_or1 (pt_cmpR op_ne (pe_c c_standing hr (by decide) rfl (pa_cons (pv 5) pa_nil)) pe_int (nomark _))))))) (pss_one (ps_ret pe_bl)) pss_nil)
      (pss_one (ps_ret (pe_and (pe_cmpR (opEq K hr.units) (pe_c c_descent_matrix hr (by decide) rfl (pa_cons (pe_mk m_Curve hr (by decide) rfl (pa_cons pe_int (pa_cons (pe_lst (pa_cons pe_int (pa_cons pe_int pa_nil))) pa_nil))) pa_nil)) (pe_lst pa_nil) (nomark _)) (pe_one (pe_cmpR op_eq (pe_c c_standing hr (by decide) rfl (pa_cons (pe_mk m_Curve hr (by decide) rfl (pa_cons pe_int (pa_cons (pe_lst (pa_cons pe_int (pa_cons pe_int pa_nil))) pa_nil))) pa_nil)) pe_int (nomark _)))))))))))))), run_def (N := nm_law) (fun ds d p => ?_) vs H Q E h⟩)
  · rintro ds d ⟨_, rfl, _⟩; rfl
  ·
    obtain ⟨ns, rfl, _, rfl⟩ := p
    have v0 : CvOk (7, [1, 0, 0, 0, 0, 1]) := ⟨by unfold Pm; decide, by unfold Nrm; decide, .inr (.inr (.inl rfl)), rfl, by decide +kernel⟩
    have v1 : CvOk (5, [1, 0, 0, 0, 0, 0, 0, 1]) := ⟨by unfold Pm; decide, by unfold Nrm; decide, .inr (.inr (.inr rfl)), rfl, by decide +kernel⟩
    have v2 : CvOk (11, [1, 3, 0, 1]) := ⟨by unfold Pm; decide, by unfold Nrm; decide, .inr (.inl rfl), rfl, by decide +kernel⟩
    have v3 : CvOk (13, [1, 1, 0, 1]) := ⟨by unfold Pm; decide, by unfold Nrm; decide, .inr (.inl rfl), rfl, by decide +kernel⟩
    have v4 : CvOk (11, [1, 0, 0, 0, 0, 1]) := ⟨by unfold Pm; decide, by unfold Nrm; decide, .inr (.inr (.inl rfl)), rfl, by decide +kernel⟩
    have v5 : CvOk (3, [1, 0, 0, 0, 0, 1]) := ⟨by unfold Pm; decide, by unfold Nrm; decide, .inr (.inr (.inl rfl)), rfl, by decide +kernel⟩
    have v6 : CvOk (5, [1, 1, 0, 1]) := ⟨by unfold Pm; decide, by unfold Nrm; decide, .inr (.inl rfl), rfl, by decide +kernel⟩
    have v7 : CvOk (7, [3, 1]) := ⟨by unfold Pm; decide, by unfold Nrm; decide, .inl rfl, rfl, by decide +kernel⟩
    show StD K _ [.val (.scr ns), .un, .un, .un, .un, .un] _
    refine st_seq (st_for (S := Unit) (as := rangeI 0 1) (enc := D.int) (Gs := fun _ => [.val (.scr ns), .un, .un, .un, .un, .un]) (step := fun u _ => u) (s0 := ()) (it_rng1 (n := 1) (by decide) ev_int) fun pre x post e => ⟨_, _, tg_name, ?_⟩) ?_
    · have hx := rangeI_mem (mem_mid e)
      have hx0 : x = 0 := by omega
      subst hx0
      exact StD.lp (st_if (x := false) (eb_not (x := true) (eb_val (ev_gen (d := .bl true) (by decide) (ea2 (ev_var (i := 0) rfl) (ev_var (i := 1) rfl)) ⟨[.int 0, .int 0, .int 0], ns, 0, 0, rfl, rfl, by decide, by decide, by decide⟩ ⟨rfl, rfl⟩ fun e he => he.2))) (fun h => nomatch h) fun _ => st_nilW (.eq (.un (.eq (.eq (.eq (.eq .nil)))))))
    refine st_seq (st_par (em_v (ev_make (ea2 ev_int (EvD.cast (e := inD [1, 0, 0, 0, 0, 1]) (ev_pub (en_lst (ea_cons ev_int (ea_cons ev_int (ea_cons ev_int (ea_cons ev_int (ea_cons ev_int (ea_cons ev_int ea_nil)))))) (by show 6 ≤ sizeLine; decide))) rfl)) ⟨7, [1, 0, 0, 0, 0, 1], rfl, v0, rfl⟩)) (em_v (ev_make (ea2 ev_int (EvD.cast (e := inD [1, 0, 0, 0, 0, 0, 0, 1]) (ev_pub (en_lst (ea_cons ev_int (ea_cons ev_int (ea_cons ev_int (ea_cons ev_int (ea_cons ev_int (ea_cons ev_int (ea_cons ev_int (ea_cons ev_int ea_nil)))))))) (by show 8 ≤ sizeLine; decide))) rfl)) ⟨5, [1, 0, 0, 0, 0, 0, 0, 1], rfl, v1, rfl⟩)) (fun h => nomatch h) (fun h => nomatch h) (by decide)) ?_
    show StD K _ [.val (.scr ns), .un, .val (cvD K (7, [1, 0, 0, 0, 0, 1])), .val (cvD K (5, [1, 0, 0, 0, 0, 0, 0, 1])), .un, .un] _
    refine st_ifS (x := false) (eb_or (x := false) (y := false) ((eb_test (ev_neL (a := matL (11, [1, 3, 0, 1])) (b := [[5]]) (like_lst like_ints) (by decide) (ev_pub (en_callX (es := (matL (11, [1, 3, 0, 1])).map inD) (ea1 (ev_make (ea2 ev_int (EvD.cast (e := inD [1, 3, 0, 1]) (ev_pub (en_lst (ea_cons ev_int (ea_cons ev_int (ea_cons ev_int (ea_cons ev_int ea_nil)))) (by show 4 ≤ sizeLine; decide))) rfl)) ⟨11, [1, 3, 0, 1], rfl, v2, rfl⟩)) ⟨(11, [1, 3, 0, 1]), rfl, v2, rfl⟩)).h (EvD.cast (e := mxD [[5]]) (ev_pub (en_lst (ea_cons (EvD.cast (e := inD [5]) (ev_pub (en_lst (ea_cons ev_int ea_nil) (by show 1 ≤ sizeLine; decide))) rfl) ea_nil) (by show 1 ≤ sizeLine; decide))) rfl).h)).cast (by decide +kernel)) fun _ => (eb_or (x := false) (y := false) ((eb_test (ev_neL (a := matL (13, [1, 1, 0, 1])) (b := [[9]]) (like_lst like_ints) (by decide) (ev_pub (en_callX (es := (matL (13, [1, 1, 0, 1])).map inD) (ea1 (ev_make (ea2 ev_int (EvD.cast (e := inD [1, 1, 0, 1]) (ev_pub (en_lst (ea_cons ev_int (ea_cons ev_int (ea_cons ev_int (ea_cons ev_int ea_nil)))) (by show 4 ≤ sizeLine; decide))) rfl)) ⟨13, [1, 1, 0, 1], rfl, v3, rfl⟩)) ⟨(13, [1, 1, 0, 1]), rfl, v3, rfl⟩)).h (EvD.cast (e := mxD [[9]]) (ev_pub (en_lst (ea_cons (EvD.cast (e := inD [9]) (ev_pub (en_lst (ea_cons ev_int ea_nil) (by show 1 ≤ sizeLine; decide))) rfl) ea_nil) (by show 1 ≤ sizeLine; decide))) rfl).h)).cast (by decide +kernel)) fun _ => ((eb_test (ev_neL (a := matL (7, [1, 0, 0, 0, 0, 1])) (b := [[0, 0], [3, 0]]) (like_lst like_ints) (by decide) (ev_pub (en_callX (es := (matL (7, [1, 0, 0, 0, 0, 1])).map inD) (ea1 (ev_var (i := 2) rfl)) ⟨(7, [1, 0, 0, 0, 0, 1]), rfl, v0, rfl⟩)).h (EvD.cast (e := mxD [[0, 0], [3, 0]]) (ev_pub (en_lst (ea_cons (EvD.cast (e := inD [0, 0]) (ev_pub (en_lst (ea_cons ev_int (ea_cons ev_int ea_nil)) (by show 2 ≤ sizeLine; decide))) rfl) (ea_cons (EvD.cast (e := inD [3, 0]) (ev_pub (en_lst (ea_cons ev_int (ea_cons ev_int ea_nil)) (by show 2 ≤ sizeLine; decide))) rfl) ea_nil)) (by show 2 ≤ sizeLine; decide))) rfl).h)).cast (by decide +kernel)))) (fun h => nomatch h) fun _ => st_seqN ?_
    refine st_ifS (x := false) (eb_or (x := false) (y := false) ((eb_test (ev_neL (a := matL (11, [1, 0, 0, 0, 0, 1])) (b := [[10, 0], [0, 5]]) (like_lst like_ints) (by decide) (ev_pub (en_callX (es := (matL (11, [1, 0, 0, 0, 0, 1])).map inD) (ea1 (ev_make (ea2 ev_int (EvD.cast (e := inD [1, 0, 0, 0, 0, 1]) (ev_pub (en_lst (ea_cons ev_int (ea_cons ev_int (ea_cons ev_int (ea_cons ev_int (ea_cons ev_int (ea_cons ev_int ea_nil)))))) (by show 6 ≤ sizeLine; decide))) rfl)) ⟨11, [1, 0, 0, 0, 0, 1], rfl, v4, rfl⟩)) ⟨(11, [1, 0, 0, 0, 0, 1]), rfl, v4, rfl⟩)).h (EvD.cast (e := mxD [[10, 0], [0, 5]]) (ev_pub (en_lst (ea_cons (EvD.cast (e := inD [10, 0]) (ev_pub (en_lst (ea_cons ev_int (ea_cons ev_int ea_nil)) (by show 2 ≤ sizeLine; decide))) rfl) (ea_cons (EvD.cast (e := inD [0, 5]) (ev_pub (en_lst (ea_cons ev_int (ea_cons ev_int ea_nil)) (by show 2 ≤ sizeLine; decide))) rfl) ea_nil)) (by show 2 ≤ sizeLine; decide))) rfl).h)).cast (by decide +kernel)) fun _ => (eb_or (x := false) (y := false) ((eb_test (ev_neI (EvD.cast (e := .int 2) (ev_call (ea1 (ev_make (ea2 ev_int (EvD.cast (e := inD [1, 0, 0, 0, 0, 1]) (ev_pub (en_lst (ea_cons ev_int (ea_cons ev_int (ea_cons ev_int (ea_cons ev_int (ea_cons ev_int (ea_cons ev_int ea_nil)))))) (by show 6 ≤ sizeLine; decide))) rfl)) ⟨11, [1, 0, 0, 0, 0, 1], rfl, v4, rfl⟩)) ⟨(11, [1, 0, 0, 0, 0, 1]), rfl, v4, rfl⟩) (congrArg D.int (by decide +kernel))) ev_int)).cast (by decide)) fun _ => ((eb_test (ev_neI (EvD.cast (e := .int 0) (ev_call (ea1 (ev_var (i := 2) rfl)) ⟨(7, [1, 0, 0, 0, 0, 1]), rfl, v0, rfl⟩) (congrArg D.int (by decide +kernel))) ev_int)).cast (by decide)))) (fun h => nomatch h) fun _ => st_seqN ?_
    refine st_ifS (x := false) (eb_or (x := false) (y := false) ((eb_test (ev_neL (a := matL (5, [1, 0, 0, 0, 0, 0, 0, 1])) (b := [[0, 0, 1], [0, 0, 0], [0, 2, 0]]) (like_lst like_ints) (by decide) (ev_pub (en_callX (es := (matL (5, [1, 0, 0, 0, 0, 0, 0, 1])).map inD) (ea1 (ev_var (i := 3) rfl)) ⟨(5, [1, 0, 0, 0, 0, 0, 0, 1]), rfl, v1, rfl⟩)).h (EvD.cast (e := mxD [[0, 0, 1], [0, 0, 0], [0, 2, 0]]) (ev_pub (en_lst (ea_cons (EvD.cast (e := inD [0, 0, 1]) (ev_pub (en_lst (ea_cons ev_int (ea_cons ev_int (ea_cons ev_int ea_nil))) (by show 3 ≤ sizeLine; decide))) rfl) (ea_cons (EvD.cast (e := inD [0, 0, 0]) (ev_pub (en_lst (ea_cons ev_int (ea_cons ev_int (ea_cons ev_int ea_nil))) (by show 3 ≤ sizeLine; decide))) rfl) (ea_cons (EvD.cast (e := inD [0, 2, 0]) (ev_pub (en_lst (ea_cons ev_int (ea_cons ev_int (ea_cons ev_int ea_nil))) (by show 3 ≤ sizeLine; decide))) rfl) ea_nil))) (by show 3 ≤ sizeLine; decide))) rfl).h)).cast (by decide +kernel)) fun _ => ((eb_test (ev_neI (EvD.cast (e := .int 0) (ev_call (ea1 (ev_var (i := 3) rfl)) ⟨(5, [1, 0, 0, 0, 0, 0, 0, 1]), rfl, v1, rfl⟩) (congrArg D.int (by decide +kernel))) ev_int)).cast (by decide))) (fun h => nomatch h) fun _ => st_seqN ?_
    refine st_seq (st_par (em_v (ev_make (ea2 ev_int (EvD.cast (e := inD [1, 0, 0, 0, 0, 1]) (ev_pub (en_lst (ea_cons ev_int (ea_cons ev_int (ea_cons ev_int (ea_cons ev_int (ea_cons ev_int (ea_cons ev_int ea_nil)))))) (by show 6 ≤ sizeLine; decide))) rfl)) ⟨3, [1, 0, 0, 0, 0, 1], rfl, v5, rfl⟩)) (em_v (ev_make (ea2 ev_int (EvD.cast (e := inD [1, 1, 0, 1]) (ev_pub (en_lst (ea_cons ev_int (ea_cons ev_int (ea_cons ev_int (ea_cons ev_int ea_nil)))) (by show 4 ≤ sizeLine; decide))) rfl)) ⟨5, [1, 1, 0, 1], rfl, v6, rfl⟩)) (fun h => nomatch h) (fun h => nomatch h) (by decide)) ?_
    show StD K _ [.val (.scr ns), .un, .val (cvD K (7, [1, 0, 0, 0, 0, 1])), .val (cvD K (5, [1, 0, 0, 0, 0, 0, 0, 1])), .val (cvD K (3, [1, 0, 0, 0, 0, 1])), .val (cvD K (5, [1, 1, 0, 1]))] _
    refine st_ifS (x := false) (eb_or (x := false) (y := false) ((eb_test (ev_neL (a := matL (3, [1, 0, 0, 0, 0, 1])) (b := [[0, 1], [0, 0]]) (like_lst like_ints) (by decide) (ev_pub (en_callX (es := (matL (3, [1, 0, 0, 0, 0, 1])).map inD) (ea1 (ev_var (i := 4) rfl)) ⟨(3, [1, 0, 0, 0, 0, 1]), rfl, v5, rfl⟩)).h (EvD.cast (e := mxD [[0, 1], [0, 0]]) (ev_pub (en_lst (ea_cons (EvD.cast (e := inD [0, 1]) (ev_pub (en_lst (ea_cons ev_int (ea_cons ev_int ea_nil)) (by show 2 ≤ sizeLine; decide))) rfl) (ea_cons (EvD.cast (e := inD [0, 0]) (ev_pub (en_lst (ea_cons ev_int (ea_cons ev_int ea_nil)) (by show 2 ≤ sizeLine; decide))) rfl) ea_nil)) (by show 2 ≤ sizeLine; decide))) rfl).h)).cast (by decide +kernel)) fun _ => (eb_or (x := false) (y := false) ((eb_test (ev_neI (EvD.cast (e := .int 0) (ev_call (ea1 (ev_var (i := 4) rfl)) ⟨(3, [1, 0, 0, 0, 0, 1]), rfl, v5, rfl⟩) (congrArg D.int (by decide +kernel))) ev_int)).cast (by decide)) fun _ => (eb_or (x := false) (y := false) ((eb_test (ev_neL (a := matL (5, [1, 1, 0, 1])) (b := [[2]]) (like_lst like_ints) (by decide) (ev_pub (en_callX (es := (matL (5, [1, 1, 0, 1])).map inD) (ea1 (ev_var (i := 5) rfl)) ⟨(5, [1, 1, 0, 1]), rfl, v6, rfl⟩)).h (EvD.cast (e := mxD [[2]]) (ev_pub (en_lst (ea_cons (EvD.cast (e := inD [2]) (ev_pub (en_lst (ea_cons ev_int ea_nil) (by show 1 ≤ sizeLine; decide))) rfl) ea_nil) (by show 1 ≤ sizeLine; decide))) rfl).h)).cast (by decide +kernel)) fun _ => ((eb_test (ev_neI (EvD.cast (e := .int 1) (ev_call (ea1 (ev_var (i := 5) rfl)) ⟨(5, [1, 1, 0, 1]), rfl, v6, rfl⟩) (congrArg D.int (by decide +kernel))) ev_int)).cast (by decide))))) (fun h => nomatch h) fun _ => st_seqN ?_
    exact st_ret ((ev_andV (x := true) (y := true) ((ev_eqL (a := matL (7, [3, 1])) (b := []) (like_lst like_ints) (by decide) (ev_pub (en_callX (es := (matL (7, [3, 1])).map inD) (ea1 (ev_make (ea2 ev_int (EvD.cast (e := inD [3, 1]) (ev_pub (en_lst (ea_cons ev_int (ea_cons ev_int ea_nil)) (by show 2 ≤ sizeLine; decide))) rfl)) ⟨7, [3, 1], rfl, v7, rfl⟩)) ⟨(7, [3, 1]), rfl, v7, rfl⟩)).h (EvD.cast (e := mxD []) (ev_pub en_lst0) rfl).h).cast (e := .bl true) (congrArg D.bl (by decide +kernel))) fun _ => (EvD.cast (e := .bl true) (ev_eqI (EvD.cast (e := .int 0) (ev_call (ea1 (ev_make (ea2 ev_int (EvD.cast (e := inD [3, 1]) (ev_pub (en_lst (ea_cons ev_int (ea_cons ev_int ea_nil)) (by show 2 ≤ sizeLine; decide))) rfl)) ⟨7, [3, 1], rfl, v7, rfl⟩)) ⟨(7, [3, 1]), rfl, v7, rfl⟩) (congrArg D.int (by decide +kernel))) ev_int) rfl)).cast rfl)
end
end Cw
set_option maxHeartbeats 0
namespace Cw
open PySem PySem.Spec PyProof.Rows L2
open C8 (Cal Met Mak InsC)
def d_is_whole : He.DefD := ⟨("is_whole", none), "is_whole", "is_whole", defArgs s_is_whole, defBody s_is_whole, defScope s_is_whole, [], []⟩
def d_is_between : He.DefD := ⟨("is_between", none), "is_between", "is_between", defArgs s_is_between, defBody s_is_between, defScope s_is_between, [], []⟩
def d_check_prime : He.DefD := ⟨("check_prime", none), "check_prime", "check_prime", defArgs s_check_prime, defBody s_check_prime, defScope s_check_prime, [], []⟩
def d_is_poly_list : He.DefD := ⟨("is_poly_list", none), "is_poly_list", "is_poly_list", defArgs s_is_poly_list, defBody s_is_poly_list, defScope s_is_poly_list, [], []⟩
def d_check_poly : He.DefD := ⟨("check_poly", none), "check_poly", "check_poly", defArgs s_check_poly, defBody s_check_poly, defScope s_check_poly, [], []⟩
def d_inverse : He.DefD := ⟨("inverse", none), "inverse", "inverse", defArgs s_inverse, defBody s_inverse, defScope s_inverse, [], []⟩
def d_trimmed : He.DefD := ⟨("trimmed", none), "trimmed", "trimmed", defArgs s_trimmed, defBody s_trimmed, defScope s_trimmed, [], []⟩
def d_added : He.DefD := ⟨("added", none), "added", "added", defArgs s_added, defBody s_added, defScope s_added, [], []⟩
def d_negated : He.DefD := ⟨("negated", none), "negated", "negated", defArgs s_negated, defBody s_negated, defScope s_negated, [], []⟩
def d_lessened : He.DefD := ⟨("lessened", none), "lessened", "lessened", defArgs s_lessened, defBody s_lessened, defScope s_lessened, [], []⟩
def d_scaled : He.DefD := ⟨("scaled", none), "scaled", "scaled", defArgs s_scaled, defBody s_scaled, defScope s_scaled, [], []⟩
def d_multiplied : He.DefD := ⟨("multiplied", none), "multiplied", "multiplied", defArgs s_multiplied, defBody s_multiplied, defScope s_multiplied, [], []⟩
def d_power_of : He.DefD := ⟨("power_of", none), "power_of", "power_of", defArgs s_power_of, defBody s_power_of, defScope s_power_of, [], []⟩
def d_parted : He.DefD := ⟨("parted", none), "parted", "parted", defArgs s_parted, defBody s_parted, defScope s_parted, [], []⟩
def d_whole_part : He.DefD := ⟨("whole_part", none), "whole_part", "whole_part", defArgs s_whole_part, defBody s_whole_part, defScope s_whole_part, [], []⟩
def d_common_with : He.DefD := ⟨("common_with", none), "common_with", "common_with", defArgs s_common_with, defBody s_common_with, defScope s_common_with, [], []⟩
def d_common_of : He.DefD := ⟨("common_of", none), "common_of", "common_of", defArgs s_common_of, defBody s_common_of, defScope s_common_of, [], []⟩
def d_slope_of : He.DefD := ⟨("slope_of", none), "slope_of", "slope_of", defArgs s_slope_of, defBody s_slope_of, defScope s_slope_of, [], []⟩
def d_Curve___init__ : He.DefD := ⟨("Curve", some "__init__"), "__init__", "Curve.__init__", defArgs s_Curve___init__, defBody s_Curve___init__, defScope s_Curve___init__, [], []⟩
def d_Curve_prime : He.DefD := ⟨("Curve", some "prime"), "prime", "Curve.prime", defArgs s_Curve_prime, defBody s_Curve_prime, defScope s_Curve_prime, [], []⟩
def d_Curve_polynomial : He.DefD := ⟨("Curve", some "polynomial"), "polynomial", "Curve.polynomial", defArgs s_Curve_polynomial, defBody s_Curve_polynomial, defScope s_Curve_polynomial, [], []⟩
def d_Curve_genus : He.DefD := ⟨("Curve", some "genus"), "genus", "Curve.genus", defArgs s_Curve_genus, defBody s_Curve_genus, defScope s_Curve_genus, [], []⟩
def d_Curve___eq__ : He.DefD := ⟨("Curve", some "__eq__"), "__eq__", "Curve.__eq__", defArgs s_Curve___eq__, defBody s_Curve___eq__, defScope s_Curve___eq__, [], []⟩
def d_is_curve_poly : He.DefD := ⟨("is_curve_poly", none), "is_curve_poly", "is_curve_poly", defArgs s_is_curve_poly, defBody s_is_curve_poly, defScope s_is_curve_poly, [], []⟩
def d_check_curve : He.DefD := ⟨("check_curve", none), "check_curve", "check_curve", defArgs s_check_curve, defBody s_check_curve, defScope s_check_curve, [], []⟩
def d_Function___init__ : He.DefD := ⟨("Function", some "__init__"), "__init__", "Function.__init__", defArgs s_Function___init__, defBody s_Function___init__, defScope s_Function___init__, [], []⟩
def d_Function_curve : He.DefD := ⟨("Function", some "curve"), "curve", "Function.curve", defArgs s_Function_curve, defBody s_Function_curve, defScope s_Function_curve, [], []⟩
def d_Function_top : He.DefD := ⟨("Function", some "top"), "top", "Function.top", defArgs s_Function_top, defBody s_Function_top, defScope s_Function_top, [], []⟩
def d_Function_side : He.DefD := ⟨("Function", some "side"), "side", "Function.side", defArgs s_Function_side, defBody s_Function_side, defScope s_Function_side, [], []⟩
def d_Function_bottom : He.DefD := ⟨("Function", some "bottom"), "bottom", "Function.bottom", defArgs s_Function_bottom, defBody s_Function_bottom, defScope s_Function_bottom, [], []⟩
def d_Function___eq__ : He.DefD := ⟨("Function", some "__eq__"), "__eq__", "Function.__eq__", defArgs s_Function___eq__, defBody s_Function___eq__, defScope s_Function___eq__, [], []⟩
def d_least_parts : He.DefD := ⟨("least_parts", none), "least_parts", "least_parts", defArgs s_least_parts, defBody s_least_parts, defScope s_least_parts, [], []⟩
def d_made : He.DefD := ⟨("made", none), "made", "made", defArgs s_made, defBody s_made, defScope s_made, [], []⟩
def d_parts_of : He.DefD := ⟨("parts_of", none), "parts_of", "parts_of", defArgs s_parts_of, defBody s_parts_of, defScope s_parts_of, [], []⟩
def d_check_function : He.DefD := ⟨("check_function", none), "check_function", "check_function", defArgs s_check_function, defBody s_check_function, defScope s_check_function, [], []⟩
def d_every : He.DefD := ⟨("every", none), "every", "every", defArgs s_every, defBody s_every, defScope s_every, [], []⟩
def d_tops_over : He.DefD := ⟨("tops_over", none), "tops_over", "tops_over", defArgs s_tops_over, defBody s_tops_over, defScope s_tops_over, [], []⟩
def d_parts_by : He.DefD := ⟨("parts_by", none), "parts_by", "parts_by", defArgs s_parts_by, defBody s_parts_by, defScope s_parts_by, [], []⟩
def d_descent_by : He.DefD := ⟨("descent_by", none), "descent_by", "descent_by", defArgs s_descent_by, defBody s_descent_by, defScope s_descent_by, [], []⟩
def d_lines_times : He.DefD := ⟨("lines_times", none), "lines_times", "lines_times", defArgs s_lines_times, defBody s_lines_times, defScope s_lines_times, [], []⟩
def d_lines_raised : He.DefD := ⟨("lines_raised", none), "lines_raised", "lines_raised", defArgs s_lines_raised, defBody s_lines_raised, defScope s_lines_raised, [], []⟩
def d_matrix_of : He.DefD := ⟨("matrix_of", none), "matrix_of", "matrix_of", defArgs s_matrix_of, defBody s_matrix_of, defScope s_matrix_of, [], []⟩
def d_rank_of : He.DefD := ⟨("rank_of", none), "rank_of", "rank_of", defArgs s_rank_of, defBody s_rank_of, defScope s_rank_of, [], []⟩
def d_descent : He.DefD := ⟨("descent", none), "descent", "descent", defArgs s_descent, defBody s_descent, defScope s_descent, [], []⟩
def d_descent_matrix : He.DefD := ⟨("descent_matrix", none), "descent_matrix", "descent_matrix", defArgs s_descent_matrix, defBody s_descent_matrix, defScope s_descent_matrix, [], []⟩
def d_standing : He.DefD := ⟨("standing", none), "standing", "standing", defArgs s_standing, defBody s_standing, defScope s_standing, [], []⟩
def d__law_hash : He.DefD := ⟨("_law_hash", none), "_law_hash", "_law_hash", defArgs s__law_hash, defBody s__law_hash, defScope s__law_hash, [], []⟩
def d__law_random : He.DefD := ⟨("_law_random", none), "_law_random", "_law_random", defArgs s__law_random, defBody s__law_random, defScope s__law_random, [], []⟩
def d__law_cell : He.DefD := ⟨("_law_cell", none), "_law_cell", "_law_cell", defArgs s__law_cell, defBody s__law_cell, defScope s__law_cell, [], []⟩
def d__law_generator : He.DefD := ⟨("_law_generator", none), "_law_generator", "_law_generator", defArgs s__law_generator, defBody s__law_generator, defScope s__law_generator, [], []⟩
def d__law_trim : He.DefD := ⟨("_law_trim", none), "_law_trim", "_law_trim", defArgs s__law_trim, defBody s__law_trim, defScope s__law_trim, [], []⟩
def d__law_add : He.DefD := ⟨("_law_add", none), "_law_add", "_law_add", defArgs s__law_add, defBody s__law_add, defScope s__law_add, [], []⟩
def d__law_scale : He.DefD := ⟨("_law_scale", none), "_law_scale", "_law_scale", defArgs s__law_scale, defBody s__law_scale, defScope s__law_scale, [], []⟩
def d__law_mul : He.DefD := ⟨("_law_mul", none), "_law_mul", "_law_mul", defArgs s__law_mul, defBody s__law_mul, defScope s__law_mul, [], []⟩
def d__law_power : He.DefD := ⟨("_law_power", none), "_law_power", "_law_power", defArgs s__law_power, defBody s__law_power, defScope s__law_power, [], []⟩
def d__law_back : He.DefD := ⟨("_law_back", none), "_law_back", "_law_back", defArgs s__law_back, defBody s__law_back, defScope s__law_back, [], []⟩
def d__law_rest : He.DefD := ⟨("_law_rest", none), "_law_rest", "_law_rest", defArgs s__law_rest, defBody s__law_rest, defScope s__law_rest, [], []⟩
def d__law_common : He.DefD := ⟨("_law_common", none), "_law_common", "_law_common", defArgs s__law_common, defBody s__law_common, defScope s__law_common, [], []⟩
def d__law_fall : He.DefD := ⟨("_law_fall", none), "_law_fall", "_law_fall", defArgs s__law_fall, defBody s__law_fall, defScope s__law_fall, [], []⟩
def d__law_any_curve : He.DefD := ⟨("_law_any_curve", none), "_law_any_curve", "_law_any_curve", defArgs s__law_any_curve, defBody s__law_any_curve, defScope s__law_any_curve, [], []⟩
def d__law_of : He.DefD := ⟨("_law_of", none), "_law_of", "_law_of", defArgs s__law_of, defBody s__law_of, defScope s__law_of, [], []⟩
def d__law_matrix : He.DefD := ⟨("_law_matrix", none), "_law_matrix", "_law_matrix", defArgs s__law_matrix, defBody s__law_matrix, defScope s__law_matrix, [], []⟩
def d__law_brought : He.DefD := ⟨("_law_brought", none), "_law_brought", "_law_brought", defArgs s__law_brought, defBody s__law_brought, defScope s__law_brought, [], []⟩
def d__law_whole_space : He.DefD := ⟨("_law_whole_space", none), "_law_whole_space", "_law_whole_space", defArgs s__law_whole_space, defBody s__law_whole_space, defScope s__law_whole_space, [], []⟩
def d__law_told : He.DefD := ⟨("_law_told", none), "_law_told", "_law_told", defArgs s__law_told, defBody s__law_told, defScope s__law_told, [], []⟩
def d__law_stands : He.DefD := ⟨("_law_stands", none), "_law_stands", "_law_stands", defArgs s__law_stands, defBody s__law_stands, defScope s__law_stands, [], []⟩
def d__law_rank : He.DefD := ⟨("_law_rank", none), "_law_rank", "_law_rank", defArgs s__law_rank, defBody s__law_rank, defScope s__law_rank, [], []⟩
def d__law_last_rank : He.DefD := ⟨("_law_last_rank", none), "_law_last_rank", "_law_last_rank", defArgs s__law_last_rank, defBody s__law_last_rank, defScope s__law_last_rank, [], []⟩
def d__law_right : He.DefD := ⟨("_law_right", none), "_law_right", "_law_right", defArgs s__law_right, defBody s__law_right, defScope s__law_right, [], []⟩
def d_law : He.DefD := ⟨("law", none), "law", "law", defArgs s_law, defBody s_law, defScope s_law, [], []⟩
def fn0 : List He.DefD := [d_is_whole, d_is_between, d_check_prime, d_is_poly_list, d_check_poly, d_inverse, d_trimmed, d_added, d_negated, d_lessened, d_scaled, d_multiplied, d_power_of, d_parted, d_whole_part, d_common_with, d_common_of, d_slope_of, d_Curve___init__, d_Curve_prime, d_Curve_polynomial, d_Curve_genus, d_Curve___eq__, d_is_curve_poly, d_check_curve, d_Function___init__, d_Function_curve, d_Function_top, d_Function_side, d_Function_bottom]
def fn1 : List He.DefD := [d_Function___eq__, d_least_parts, d_made, d_parts_of, d_check_function, d_every, d_tops_over, d_parts_by, d_descent_by, d_lines_times, d_lines_raised, d_matrix_of, d_rank_of, d_descent, d_descent_matrix, d_standing, d__law_hash, d__law_random, d__law_cell, d__law_generator, d__law_trim, d__law_add, d__law_scale, d__law_mul, d__law_power, d__law_back, d__law_rest, d__law_common, d__law_fall, d__law_any_curve]
def fn2 : List He.DefD := [d__law_of, d__law_matrix, d__law_brought, d__law_whole_space, d__law_told, d__law_stands, d__law_rank, d__law_last_rank, d__law_right, d_law]
def fn : List He.DefD := fn0 ++ fn1 ++ fn2
def fa0 : List He.Fa := [.glo "is_whole", .glo "is_between", .glo "check_prime", .glo "is_poly_list", .glo "check_poly", .glo "inverse", .glo "trimmed", .glo "added", .glo "negated", .glo "lessened", .glo "scaled", .glo "multiplied", .glo "power_of", .glo "parted", .glo "whole_part", .glo "common_with", .glo "common_of", .glo "slope_of", .glo "Curve", .mkr "Curve", .meth "Curve" "prime", .meth "Curve" "polynomial", .meth "Curve" "genus", .meth "Curve" "__eq__", .glo "is_curve_poly", .glo "check_curve", .glo "Function", .mkr "Function", .meth "Function" "curve", .meth "Function" "top"]
def fa1 : List He.Fa := [.meth "Function" "side", .meth "Function" "bottom", .meth "Function" "__eq__", .glo "least_parts", .glo "made", .glo "parts_of", .glo "check_function", .glo "every", .glo "tops_over", .glo "parts_by", .glo "descent_by", .glo "lines_times", .glo "lines_raised", .glo "matrix_of", .glo "rank_of", .glo "descent", .glo "descent_matrix", .glo "standing", .glo "_law_hash", .glo "_law_random", .glo "_law_cell", .glo "_law_generator", .glo "_law_trim", .glo "_law_add", .glo "_law_scale", .glo "_law_mul", .glo "_law_power", .glo "_law_back", .glo "_law_rest", .glo "_law_common"]
def fa2 : List He.Fa := [.glo "_law_fall", .glo "_law_any_curve", .glo "_law_of", .glo "_law_matrix", .glo "_law_brought", .glo "_law_whole_space", .glo "_law_told", .glo "_law_stands", .glo "_law_rank", .glo "_law_last_rank", .glo "_law_right", .glo "law", .free "ValueError", .free "bool", .free "dict", .free "enumerate", .free "int", .free "isinstance", .free "len", .free "list", .free "max", .free "min", .free "range", .free "repr", .free "sorted", .free "sum", .free "super", .free "tuple", .free "zip", .glo "PRIMES"]
def fa3 : List He.Fa := [.int "MOST_POWER" 60, .cls "Curve", .noat "Curve" "_polynomial", .noat "Curve" "_prime", .cls "Function", .noat "Function" "_curve", .noat "Function" "_parts"]
def fa : List He.Fa := fa0 ++ fa1 ++ fa2 ++ fa3
def loose0 : List PySem.Str := ["CurveError", "InvalidPrime", "InvalidPolynomial", "InvalidCurve", "InvalidFunction", "PRIMES", "MOST_POWER", "is_whole", "is_between", "check_prime", "is_poly_list", "check_poly", "inverse", "trimmed", "added", "negated", "lessened", "scaled", "multiplied", "power_of", "parted", "whole_part", "common_with", "common_of", "slope_of", "Curve", "is_curve_poly", "check_curve", "Function", "least_parts"]
def loose1 : List PySem.Str := ["made", "parts_of", "check_function", "every", "tops_over", "parts_by", "descent_by", "lines_times", "lines_raised", "matrix_of", "rank_of", "descent", "descent_matrix", "standing", "_law_hash", "_law_random", "_law_cell", "_law_generator", "_law_trim", "_law_add", "_law_scale", "_law_mul", "_law_power", "_law_back", "_law_rest", "_law_common", "_law_fall", "_law_any_curve", "_law_of", "_law_matrix"]
def loose2 : List PySem.Str := ["_law_brought", "_law_whole_space", "_law_told", "_law_stands", "_law_rank", "_law_last_rank", "_law_right"]
def loose : List PySem.Str := loose0 ++ loose1 ++ loose2
def insB (K : Fg) (x : Str) : Bool := He.eqO (PySem.W.findIn K (.ref (He.ga K x)) "__class__") (some (some (.builtin "object.__class__"))) && (decide (PySem.W.specialIn K (.builtin "object.__class__") "__get__" = some (some (.builtin "getset_descriptor.__get__"))) && (decide (PySem.W.takesIn K (.builtin "object.__class__") = some true) && (decide (PySem.W.mroIn K (He.ga K x) (.type "object") = some true) && decide (PySem.W.kitOne K (.ref (He.ga K x)) (.ref (He.ga K x)) = some true))))
theorem insB_ok {K : Fg} {x : Str} (c : Cls K (He.ga K x)) (h : insB K x = true) : InsC K (He.ga K x) := by
  obtain ⟨h1, h⟩ := He.ba h
  obtain ⟨h2, h⟩ := He.ba h
  obtain ⟨h3, h⟩ := He.ba h
  obtain ⟨h4, h5⟩ := He.ba h
  exact ⟨c, He.eqO_ok h1, of_decide_eq_true h2, of_decide_eq_true h3, of_decide_eq_true h4, of_decide_eq_true h5⟩
def xb (K : Fg) : Bool := He.tupB K "PRIMES" [.int 3, .int 5, .int 7, .int 11, .int 13] && (insB K "Curve" && (insB K "Function"))
def frL {α : Type} : List Addr → (List Addr → α) → α
  | [], k => k []
  | a :: r, k => HandSHeadRun.frNat a fun a => frL r fun r => k (a :: r)
theorem frL_eq {α : Type} : ∀ (l : List Addr) (k : List Addr → α), frL l k = k l
  | [], k => rfl
  | a :: r, k => by
    show HandSHeadRun.frNat a (fun a => frL r fun r => k (a :: r)) = _
    rw [HandSHeadRun.frNat_eq, frL_eq r]
def lvl (g : Addr → Option Obj) (as : List Addr) : List Addr := as.flatMap fun a => match g a with
  | some o => He.refsD o
  | none => []
/-- what the names reach, level by level -/
def asL (g : Addr → Option Obj) : List Addr := frL (lvl g [mainGlobals]) fun l1 => frL (lvl g l1) fun l2 => frL (lvl g l2) fun l3 => frL (lvl g l3) fun l4 => mainGlobals :: (l1 ++ (l2 ++ (l3 ++ l4)))
def kx (g : Addr → Option Obj) : Fg := frL (asL g) fun as => He.frG g as
theorem kx_in {h : Heap} : (kx h.get?).In h := by
  unfold kx
  rw [frL_eq]
  exact He.frG_in
abbrev AlX : Type := He.AlD × Bool
def obsX (g : Addr → Option Obj) : AlX := (fun K => (He.obsD fa fn K, xb K)) (kx g)
def hk : PySem.W.Hook where
  α := AlX
  obs := fun s => obsX s.heap.get?
  val := fun _ => (He.valD fn, true)
  says := fun _ h => ∃ K : PySem.W.Frag, K.In h ∧ He.SaysD fa fn K ∧ xb K = true
  of := fun _ _ e => ⟨_, kx_in, congrArg (fun z : AlX => z.1) e, congrArg (fun z : AlX => z.2) e⟩
  keeps := fun _ _ _ ⟨K, hK, c⟩ k => ⟨K, PySem.W.Frag.In.keeps hK k, c⟩
abbrev R : PySem.W.OpenRow := PySem.W.OpenLaw.row PySem.Challenge.rw_curvewords_k78_whole_matrices_of_descent
def ob (s : PySem.W.SharedT) : AlX := obsX (HandSHeadRun.getT s)
theorem ob_eq (s : PySem.W.SharedT) : ob s = hk.obs s.abs := by
  have e : HandSHeadRun.getT s = s.abs.heap.get? := funext (HandSHeadRun.getT_eq s)
  show obsX _ = obsX _
  rw [e]
theorem run (w : World) : HandSHeadRun.RunEq R (PySem.W.view R.prog [74]) hk ob 20000 loose w := by
  intro os
  kernel_rfl
theorem bindsK {K : Fg} {x qual : Str} {params : Arguments} {body : List Stmt} {scope : Scope} {f : Addr} {fd : FuncData} {a : Str} (F : FunD K x qual params body scope [] [] f fd)
    (h : ∀ (kV doc pm : Value) (an : Option Addr) (cdv ct : Value) (ws : List Value), ws.length = 1 → bindArgs (PySem.W.fnOf x qual params body scope .none kV doc pm an cdv ct) ⟨[], [a].zip ws⟩ = pure ([a].zip ws)) (s : Shared) (ws : List Value) (hl : ws.length = 1) : BindsTo s fd ⟨[], [a].zip ws⟩ ([a].zip ws) := by
  obtain ⟨oc, od, dV, kV, doc, pm, an, cdv, ct, osl, rfl, lk, hcd, hD, hK⟩ := F.ex
  rcases hD with ⟨_, rfl⟩ | ⟨e, _⟩
  · exact .of_eq (h kV doc pm an cdv ct ws hl)
  · exact absurd rfl e
theorem facts {P : Program} {w : World} {K : Fg} {h : Heap} {mg : Str → Option Value} {f : Addr} (X : K.In h) (G : h.Ns mainGlobals mg) (hfa : mg ("law" : Str) = some (.ref f)) (c0 : He.SaysD fa fn K) (x : xb K = true) :
    ∃ fd : FuncData, (∀ (s : Shared) (v : Value), BindsTo s fd ⟨[v], []⟩ [("script", v)]) ∧ ∀ base : Heap, K.In base → base.Ns mainGlobals mg → FnOk P w K mg base CX0 14 f fd ["script"] (spD K p_law) := by
  obtain ⟨x_t_PRIMES, x⟩ := He.ba x
  obtain ⟨x_i_Curve, x⟩ := He.ba x
  have x_i_Function := x
  have fx : Fx K mg := {
    b_ValueError := He.free_ok X G (c0.fact 72 (f := .free "ValueError") rfl)
    b_bool := He.free_ok X G (c0.fact 73 (f := .free "bool") rfl)
    b_dict := He.free_ok X G (c0.fact 74 (f := .free "dict") rfl)
    b_enumerate := He.free_ok X G (c0.fact 75 (f := .free "enumerate") rfl)
    b_int := He.free_ok X G (c0.fact 76 (f := .free "int") rfl)
    b_isinstance := He.free_ok X G (c0.fact 77 (f := .free "isinstance") rfl)
    b_len := He.free_ok X G (c0.fact 78 (f := .free "len") rfl)
    b_list := He.free_ok X G (c0.fact 79 (f := .free "list") rfl)
    b_max := He.free_ok X G (c0.fact 80 (f := .free "max") rfl)
    b_min := He.free_ok X G (c0.fact 81 (f := .free "min") rfl)
    b_range := He.free_ok X G (c0.fact 82 (f := .free "range") rfl)
    b_repr := He.free_ok X G (c0.fact 83 (f := .free "repr") rfl)
    b_sorted := He.free_ok X G (c0.fact 84 (f := .free "sorted") rfl)
    b_sum := He.free_ok X G (c0.fact 85 (f := .free "sum") rfl)
    b_super := He.free_ok X G (c0.fact 86 (f := .free "super") rfl)
    b_tuple := He.free_ok X G (c0.fact 87 (f := .free "tuple") rfl)
    b_zip := He.free_ok X G (c0.fact 88 (f := .free "zip") rfl)
    g_PRIMES := ⟨_, He.glo_ok X G (c0.fact 89 (f := .glo "PRIMES") rfl), rfl⟩
    t_PRIMES := fun H => He.tupB_ok x_t_PRIMES H
    g_MOST_POWER := by obtain ⟨t, e⟩ := He.int_ok X G (c0.fact 90 (f := .int "MOST_POWER" 60) rfl); exact ⟨_, e, t, rfl⟩
    g_Curve := ⟨_, He.glo_ok X G (c0.fact 18 (f := .glo "Curve") rfl), rfl⟩
    ic_Curve := insB_ok (He.cls_ok (c0.fact 91 (f := .cls "Curve") rfl)) x_i_Curve
    n_Curve_polynomial := He.noat_ok (c0.fact 92 (f := .noat "Curve" "_polynomial") rfl)
    n_Curve_prime := He.noat_ok (c0.fact 93 (f := .noat "Curve" "_prime") rfl)
    g_Function := ⟨_, He.glo_ok X G (c0.fact 26 (f := .glo "Function") rfl), rfl⟩
    ic_Function := insB_ok (He.cls_ok (c0.fact 94 (f := .cls "Function") rfl)) x_i_Function
    n_Function_curve := He.noat_ok (c0.fact 95 (f := .noat "Function" "_curve") rfl)
    n_Function_parts := He.noat_ok (c0.fact 96 (f := .noat "Function" "_parts") rfl) }
  obtain ⟨fd_is_whole, F_is_whole⟩ := c0.def_ 0 (d := d_is_whole) rfl
  obtain ⟨fd_inverse, F_inverse⟩ := c0.def_ 5 (d := d_inverse) rfl
  obtain ⟨fd_trimmed, F_trimmed⟩ := c0.def_ 6 (d := d_trimmed) rfl
  obtain ⟨fd_Curve_prime, F_Curve_prime⟩ := c0.def_ 19 (d := d_Curve_prime) rfl
  obtain ⟨fd_Curve_polynomial, F_Curve_polynomial⟩ := c0.def_ 20 (d := d_Curve_polynomial) rfl
  obtain ⟨fd_Curve_genus, F_Curve_genus⟩ := c0.def_ 21 (d := d_Curve_genus) rfl
  obtain ⟨fd_Curve___eq__, F_Curve___eq__⟩ := c0.def_ 22 (d := d_Curve___eq__) rfl
  obtain ⟨fd_check_curve, F_check_curve⟩ := c0.def_ 24 (d := d_check_curve) rfl
  obtain ⟨fd_Function_curve, F_Function_curve⟩ := c0.def_ 26 (d := d_Function_curve) rfl
  obtain ⟨fd_Function_top, F_Function_top⟩ := c0.def_ 27 (d := d_Function_top) rfl
  obtain ⟨fd_Function_side, F_Function_side⟩ := c0.def_ 28 (d := d_Function_side) rfl
  obtain ⟨fd_Function_bottom, F_Function_bottom⟩ := c0.def_ 29 (d := d_Function_bottom) rfl
  obtain ⟨fd_check_function, F_check_function⟩ := c0.def_ 34 (d := d_check_function) rfl
  obtain ⟨fd_lines_times, F_lines_times⟩ := c0.def_ 39 (d := d_lines_times) rfl
  obtain ⟨fd__law_hash, F__law_hash⟩ := c0.def_ 46 (d := d__law_hash) rfl
  obtain ⟨fd__law_cell, F__law_cell⟩ := c0.def_ 48 (d := d__law_cell) rfl
  obtain ⟨fd__law_trim, F__law_trim⟩ := c0.def_ 50 (d := d__law_trim) rfl
  obtain ⟨fd__law_back, F__law_back⟩ := c0.def_ 55 (d := d__law_back) rfl
  obtain ⟨fd__law_brought, F__law_brought⟩ := c0.def_ 62 (d := d__law_brought) rfl
  obtain ⟨fd__law_whole_space, F__law_whole_space⟩ := c0.def_ 63 (d := d__law_whole_space) rfl
  obtain ⟨fd_is_between, F_is_between⟩ := c0.def_ 1 (d := d_is_between) rfl
  obtain ⟨fd_check_prime, F_check_prime⟩ := c0.def_ 2 (d := d_check_prime) rfl
  obtain ⟨fd_added, F_added⟩ := c0.def_ 7 (d := d_added) rfl
  obtain ⟨fd_negated, F_negated⟩ := c0.def_ 8 (d := d_negated) rfl
  obtain ⟨fd_scaled, F_scaled⟩ := c0.def_ 10 (d := d_scaled) rfl
  obtain ⟨fd_multiplied, F_multiplied⟩ := c0.def_ 11 (d := d_multiplied) rfl
  obtain ⟨fd_parted, F_parted⟩ := c0.def_ 13 (d := d_parted) rfl
  obtain ⟨fd_slope_of, F_slope_of⟩ := c0.def_ 17 (d := d_slope_of) rfl
  obtain ⟨fd_Function___eq__, F_Function___eq__⟩ := c0.def_ 30 (d := d_Function___eq__) rfl
  obtain ⟨fd_parts_of, F_parts_of⟩ := c0.def_ 33 (d := d_parts_of) rfl
  obtain ⟨fd_every, F_every⟩ := c0.def_ 35 (d := d_every) rfl
  obtain ⟨fd_lines_raised, F_lines_raised⟩ := c0.def_ 40 (d := d_lines_raised) rfl
  obtain ⟨fd_rank_of, F_rank_of⟩ := c0.def_ 42 (d := d_rank_of) rfl
  obtain ⟨fd__law_random, F__law_random⟩ := c0.def_ 47 (d := d__law_random) rfl
  obtain ⟨fd__law_generator, F__law_generator⟩ := c0.def_ 49 (d := d__law_generator) rfl
  obtain ⟨fd__law_add, F__law_add⟩ := c0.def_ 51 (d := d__law_add) rfl
  obtain ⟨fd__law_scale, F__law_scale⟩ := c0.def_ 52 (d := d__law_scale) rfl
  obtain ⟨fd__law_mul, F__law_mul⟩ := c0.def_ 53 (d := d__law_mul) rfl
  obtain ⟨fd__law_fall, F__law_fall⟩ := c0.def_ 58 (d := d__law_fall) rfl
  obtain ⟨fd__law_stands, F__law_stands⟩ := c0.def_ 65 (d := d__law_stands) rfl
  obtain ⟨fd__law_rank, F__law_rank⟩ := c0.def_ 66 (d := d__law_rank) rfl
  obtain ⟨fd_is_poly_list, F_is_poly_list⟩ := c0.def_ 3 (d := d_is_poly_list) rfl
  obtain ⟨fd_lessened, F_lessened⟩ := c0.def_ 9 (d := d_lessened) rfl
  obtain ⟨fd_power_of, F_power_of⟩ := c0.def_ 12 (d := d_power_of) rfl
  obtain ⟨fd_whole_part, F_whole_part⟩ := c0.def_ 14 (d := d_whole_part) rfl
  obtain ⟨fd__law_power, F__law_power⟩ := c0.def_ 54 (d := d__law_power) rfl
  obtain ⟨fd__law_rest, F__law_rest⟩ := c0.def_ 56 (d := d__law_rest) rfl
  obtain ⟨fd__law_last_rank, F__law_last_rank⟩ := c0.def_ 67 (d := d__law_last_rank) rfl
  obtain ⟨fd_check_poly, F_check_poly⟩ := c0.def_ 4 (d := d_check_poly) rfl
  obtain ⟨fd_common_with, F_common_with⟩ := c0.def_ 15 (d := d_common_with) rfl
  obtain ⟨fd_tops_over, F_tops_over⟩ := c0.def_ 36 (d := d_tops_over) rfl
  obtain ⟨fd_matrix_of, F_matrix_of⟩ := c0.def_ 41 (d := d_matrix_of) rfl
  obtain ⟨fd__law_common, F__law_common⟩ := c0.def_ 57 (d := d__law_common) rfl
  obtain ⟨fd__law_matrix, F__law_matrix⟩ := c0.def_ 61 (d := d__law_matrix) rfl
  obtain ⟨fd_common_of, F_common_of⟩ := c0.def_ 16 (d := d_common_of) rfl
  obtain ⟨fd_descent_matrix, F_descent_matrix⟩ := c0.def_ 44 (d := d_descent_matrix) rfl
  obtain ⟨fd_standing, F_standing⟩ := c0.def_ 45 (d := d_standing) rfl
  obtain ⟨fd__law_any_curve, F__law_any_curve⟩ := c0.def_ 59 (d := d__law_any_curve) rfl
  obtain ⟨fd_is_curve_poly, F_is_curve_poly⟩ := c0.def_ 23 (d := d_is_curve_poly) rfl
  obtain ⟨fd_least_parts, F_least_parts⟩ := c0.def_ 31 (d := d_least_parts) rfl
  obtain ⟨fd_Curve___init__, F_Curve___init__⟩ := c0.def_ 18 (d := d_Curve___init__) rfl
  obtain ⟨fd_Function___init__, F_Function___init__⟩ := c0.def_ 25 (d := d_Function___init__) rfl
  obtain ⟨fd_made, F_made⟩ := c0.def_ 32 (d := d_made) rfl
  obtain ⟨fd__law_of, F__law_of⟩ := c0.def_ 60 (d := d__law_of) rfl
  obtain ⟨fd_parts_by, F_parts_by⟩ := c0.def_ 37 (d := d_parts_by) rfl
  obtain ⟨fd__law_told, F__law_told⟩ := c0.def_ 64 (d := d__law_told) rfl
  obtain ⟨fd_descent_by, F_descent_by⟩ := c0.def_ 38 (d := d_descent_by) rfl
  obtain ⟨fd_descent, F_descent⟩ := c0.def_ 43 (d := d_descent) rfl
  obtain ⟨fd__law_right, F__law_right⟩ := c0.def_ 68 (d := d__law_right) rfl
  obtain ⟨fd_law, F_law⟩ := c0.def_ 69 (d := d_law) rfl
  have e := hfa.symm.trans (He.glo_ok X G (c0.fact 71 (f := .glo "law") rfl))
  cases e
  refine ⟨fd_law, fun s v => FunD.bindsA (ps := ["script"]) F_law (fun _ _ _ _ _ _ us hl => match us, hl with | [_], _ => rfl) s [v] rfl, fun base _ _ => ?_⟩
  · skip
    have o_is_whole := ok_is_whole (P := P) (w := w) (base := base) fx  F_is_whole
    have c_is_whole : Cal P w K mg base 1 "is_whole" (spD K p_is_whole) [] := ⟨_, fd_is_whole, ["value"], [], o_is_whole, He.glo_ok X G (c0.fact 0 (f := .glo "is_whole") rfl), F_is_whole.kp, (F_is_whole.bindsN fun _ _ _ _ _ _ us hl => match us, hl with | [_], _ => rfl), .nil⟩
    have o_inverse := ok_inverse (P := P) (w := w) (base := base) fx  F_inverse
    have c_inverse : Cal P w K mg base 1 "inverse" (spD K p_inverse) [] := ⟨_, fd_inverse, ["p", "number"], [], o_inverse, He.glo_ok X G (c0.fact 5 (f := .glo "inverse") rfl), F_inverse.kp, (F_inverse.bindsN fun _ _ _ _ _ _ us hl => match us, hl with | [_, _], _ => rfl), .nil⟩
    have o_trimmed := ok_trimmed (P := P) (w := w) (base := base) fx  F_trimmed
    have c_trimmed : Cal P w K mg base 1 "trimmed" (spD K p_trimmed) [] := ⟨_, fd_trimmed, ["p", "numbers"], [], o_trimmed, He.glo_ok X G (c0.fact 6 (f := .glo "trimmed") rfl), F_trimmed.kp, (F_trimmed.bindsN fun _ _ _ _ _ _ us hl => match us, hl with | [_, _], _ => rfl), .nil⟩
    have o_Curve_prime := ok_Curve_prime (P := P) (w := w) (base := base) fx  F_Curve_prime
    have m_Curve_prime : Met P w K mg base 1 (He.ga K "Curve") "prime" (spD K (p_Curve_prime K)) [] := ⟨_, fd_Curve_prime, ["self"], [], He.cls_ok (c0.fact 91 (f := .cls "Curve") rfl), He.meth_ok (c0.fact 20 (f := .meth "Curve" "prime") rfl), o_Curve_prime, (F_Curve_prime.bindsN fun _ _ _ _ _ _ us hl => match us, hl with | [_], _ => rfl), .nil⟩
    have o_Curve_polynomial := ok_Curve_polynomial (P := P) (w := w) (base := base) fx  F_Curve_polynomial
    have m_Curve_polynomial : Met P w K mg base 1 (He.ga K "Curve") "polynomial" (spD K (p_Curve_polynomial K)) [] := ⟨_, fd_Curve_polynomial, ["self"], [], He.cls_ok (c0.fact 91 (f := .cls "Curve") rfl), He.meth_ok (c0.fact 21 (f := .meth "Curve" "polynomial") rfl), o_Curve_polynomial, (F_Curve_polynomial.bindsN fun _ _ _ _ _ _ us hl => match us, hl with | [_], _ => rfl), .nil⟩
    have o_Curve_genus := ok_Curve_genus (P := P) (w := w) (base := base) fx  F_Curve_genus
    have m_Curve_genus : Met P w K mg base 1 (He.ga K "Curve") "genus" (spD K (p_Curve_genus K)) [] := ⟨_, fd_Curve_genus, ["self"], [], He.cls_ok (c0.fact 91 (f := .cls "Curve") rfl), He.meth_ok (c0.fact 22 (f := .meth "Curve" "genus") rfl), o_Curve_genus, (F_Curve_genus.bindsN fun _ _ _ _ _ _ us hl => match us, hl with | [_], _ => rfl), .nil⟩
    have o_Curve___eq__ := ok_Curve___eq__ (P := P) (w := w) (base := base) fx  F_Curve___eq__
    have m_Curve___eq__ : Met P w K mg base 1 (He.ga K "Curve") "__eq__" (spD K (p_Curve___eq__ K)) [] := ⟨_, fd_Curve___eq__, ["self", "other"], [], He.cls_ok (c0.fact 91 (f := .cls "Curve") rfl), He.meth_ok (c0.fact 23 (f := .meth "Curve" "__eq__") rfl), o_Curve___eq__, (F_Curve___eq__.bindsN fun _ _ _ _ _ _ us hl => match us, hl with | [_, _], _ => rfl), .nil⟩
    have o_check_curve := ok_check_curve (P := P) (w := w) (base := base) fx  F_check_curve
    have c_check_curve : Cal P w K mg base 1 "check_curve" (spD K (p_check_curve K)) [] := ⟨_, fd_check_curve, ["curve"], [], o_check_curve, He.glo_ok X G (c0.fact 25 (f := .glo "check_curve") rfl), F_check_curve.kp, (F_check_curve.bindsN fun _ _ _ _ _ _ us hl => match us, hl with | [_], _ => rfl), .nil⟩
    have o_Function_curve := ok_Function_curve (P := P) (w := w) (base := base) fx  F_Function_curve
    have m_Function_curve : Met P w K mg base 1 (He.ga K "Function") "curve" (spD K (p_Function_curve K)) [] := ⟨_, fd_Function_curve, ["self"], [], He.cls_ok (c0.fact 94 (f := .cls "Function") rfl), He.meth_ok (c0.fact 28 (f := .meth "Function" "curve") rfl), o_Function_curve, (F_Function_curve.bindsN fun _ _ _ _ _ _ us hl => match us, hl with | [_], _ => rfl), .nil⟩
    have o_Function_top := ok_Function_top (P := P) (w := w) (base := base) fx  F_Function_top
    have m_Function_top : Met P w K mg base 1 (He.ga K "Function") "top" (spD K (p_Function_top K)) [] := ⟨_, fd_Function_top, ["self"], [], He.cls_ok (c0.fact 94 (f := .cls "Function") rfl), He.meth_ok (c0.fact 29 (f := .meth "Function" "top") rfl), o_Function_top, (F_Function_top.bindsN fun _ _ _ _ _ _ us hl => match us, hl with | [_], _ => rfl), .nil⟩
    have o_Function_side := ok_Function_side (P := P) (w := w) (base := base) fx  F_Function_side
    have m_Function_side : Met P w K mg base 1 (He.ga K "Function") "side" (spD K (p_Function_side K)) [] := ⟨_, fd_Function_side, ["self"], [], He.cls_ok (c0.fact 94 (f := .cls "Function") rfl), He.meth_ok (c0.fact 30 (f := .meth "Function" "side") rfl), o_Function_side, (F_Function_side.bindsN fun _ _ _ _ _ _ us hl => match us, hl with | [_], _ => rfl), .nil⟩
    have o_Function_bottom := ok_Function_bottom (P := P) (w := w) (base := base) fx  F_Function_bottom
    have m_Function_bottom : Met P w K mg base 1 (He.ga K "Function") "bottom" (spD K (p_Function_bottom K)) [] := ⟨_, fd_Function_bottom, ["self"], [], He.cls_ok (c0.fact 94 (f := .cls "Function") rfl), He.meth_ok (c0.fact 31 (f := .meth "Function" "bottom") rfl), o_Function_bottom, (F_Function_bottom.bindsN fun _ _ _ _ _ _ us hl => match us, hl with | [_], _ => rfl), .nil⟩
    have o_check_function := ok_check_function (P := P) (w := w) (base := base) fx  F_check_function
    have c_check_function : Cal P w K mg base 1 "check_function" (spD K (p_check_function K)) [] := ⟨_, fd_check_function, ["function"], [], o_check_function, He.glo_ok X G (c0.fact 36 (f := .glo "check_function") rfl), F_check_function.kp, (F_check_function.bindsN fun _ _ _ _ _ _ us hl => match us, hl with | [_], _ => rfl), .nil⟩
    have o_lines_times := ok_lines_times (P := P) (w := w) (base := base) fx  F_lines_times
    have c_lines_times : Cal P w K mg base 1 "lines_times" (spD K p_lines_times) [] := ⟨_, fd_lines_times, ["p", "one", "other"], [], o_lines_times, He.glo_ok X G (c0.fact 41 (f := .glo "lines_times") rfl), F_lines_times.kp, (F_lines_times.bindsN fun _ _ _ _ _ _ us hl => match us, hl with | [_, _, _], _ => rfl), .nil⟩
    have o__law_hash := ok__law_hash (P := P) (w := w) (base := base) fx  F__law_hash
    have c__law_hash : Cal P w K mg base 1 "_law_hash" (spD K p__law_hash) [] := ⟨_, fd__law_hash, ["seed", "index"], [], o__law_hash, He.glo_ok X G (c0.fact 48 (f := .glo "_law_hash") rfl), F__law_hash.kp, (F__law_hash.bindsN fun _ _ _ _ _ _ us hl => match us, hl with | [_, _], _ => rfl), .nil⟩
    have o__law_cell := ok__law_cell (P := P) (w := w) (base := base) fx  F__law_cell
    have c__law_cell : Cal P w K mg base 1 "_law_cell" (spD K p__law_cell) [] := ⟨_, fd__law_cell, ["script", "index"], [], o__law_cell, He.glo_ok X G (c0.fact 50 (f := .glo "_law_cell") rfl), F__law_cell.kp, (F__law_cell.bindsN fun _ _ _ _ _ _ us hl => match us, hl with | [_, _], _ => rfl), .nil⟩
    have o__law_trim := ok__law_trim (P := P) (w := w) (base := base) fx  F__law_trim
    have c__law_trim : Cal P w K mg base 1 "_law_trim" (spD K p__law_trim) [] := ⟨_, fd__law_trim, ["p", "row"], [], o__law_trim, He.glo_ok X G (c0.fact 52 (f := .glo "_law_trim") rfl), F__law_trim.kp, (F__law_trim.bindsN fun _ _ _ _ _ _ us hl => match us, hl with | [_, _], _ => rfl), .nil⟩
    have o__law_back := ok__law_back (P := P) (w := w) (base := base) fx  F__law_back
    have c__law_back : Cal P w K mg base 1 "_law_back" (spD K p__law_back) [] := ⟨_, fd__law_back, ["p", "number"], [], o__law_back, He.glo_ok X G (c0.fact 57 (f := .glo "_law_back") rfl), F__law_back.kp, (F__law_back.bindsN fun _ _ _ _ _ _ us hl => match us, hl with | [_, _], _ => rfl), .nil⟩
    have o__law_brought := ok__law_brought (P := P) (w := w) (base := base) fx  F__law_brought
    have c__law_brought : Cal P w K mg base 1 "_law_brought" (spD K p__law_brought) [] := ⟨_, fd__law_brought, ["told", "lines", "numbers"], [], o__law_brought, He.glo_ok X G (c0.fact 64 (f := .glo "_law_brought") rfl), F__law_brought.kp, (F__law_brought.bindsN fun _ _ _ _ _ _ us hl => match us, hl with | [_, _, _], _ => rfl), .nil⟩
    have o__law_whole_space := ok__law_whole_space (P := P) (w := w) (base := base) fx  F__law_whole_space
    have c__law_whole_space : Cal P w K mg base 1 "_law_whole_space" (spD K p__law_whole_space) [] := ⟨_, fd__law_whole_space, ["p", "genus"], [], o__law_whole_space, He.glo_ok X G (c0.fact 65 (f := .glo "_law_whole_space") rfl), F__law_whole_space.kp, (F__law_whole_space.bindsN fun _ _ _ _ _ _ us hl => match us, hl with | [_, _], _ => rfl), .nil⟩
    have o_is_between := ok_is_between (P := P) (w := w) (base := base) fx (c_is_whole := c_is_whole) F_is_between
    have c_is_between : Cal P w K mg base 2 "is_between" (spD K p_is_between) [] := ⟨_, fd_is_between, ["value", "low", "high"], [], o_is_between, He.glo_ok X G (c0.fact 1 (f := .glo "is_between") rfl), F_is_between.kp, (F_is_between.bindsN fun _ _ _ _ _ _ us hl => match us, hl with | [_, _, _], _ => rfl), .nil⟩
    have o_check_prime := ok_check_prime (P := P) (w := w) (base := base) fx (c_is_whole := c_is_whole) F_check_prime
    have c_check_prime : Cal P w K mg base 2 "check_prime" (spD K p_check_prime) [] := ⟨_, fd_check_prime, ["p"], [], o_check_prime, He.glo_ok X G (c0.fact 2 (f := .glo "check_prime") rfl), F_check_prime.kp, (F_check_prime.bindsN fun _ _ _ _ _ _ us hl => match us, hl with | [_], _ => rfl), .nil⟩
    have o_added := ok_added (P := P) (w := w) (base := base) fx (c_trimmed := c_trimmed) F_added
    have c_added : Cal P w K mg base 2 "added" (spD K p_added) [] := ⟨_, fd_added, ["p", "one", "other"], [], o_added, He.glo_ok X G (c0.fact 7 (f := .glo "added") rfl), F_added.kp, (F_added.bindsN fun _ _ _ _ _ _ us hl => match us, hl with | [_, _, _], _ => rfl), .nil⟩
    have o_negated := ok_negated (P := P) (w := w) (base := base) fx (c_trimmed := c_trimmed) F_negated
    have c_negated : Cal P w K mg base 2 "negated" (spD K p_negated) [] := ⟨_, fd_negated, ["p", "one"], [], o_negated, He.glo_ok X G (c0.fact 8 (f := .glo "negated") rfl), F_negated.kp, (F_negated.bindsN fun _ _ _ _ _ _ us hl => match us, hl with | [_, _], _ => rfl), .nil⟩
    have o_scaled := ok_scaled (P := P) (w := w) (base := base) fx (c_trimmed := c_trimmed) F_scaled
    have c_scaled : Cal P w K mg base 2 "scaled" (spD K p_scaled) [] := ⟨_, fd_scaled, ["p", "one", "number"], [], o_scaled, He.glo_ok X G (c0.fact 10 (f := .glo "scaled") rfl), F_scaled.kp, (F_scaled.bindsN fun _ _ _ _ _ _ us hl => match us, hl with | [_, _, _], _ => rfl), .nil⟩
    have o_multiplied := ok_multiplied (P := P) (w := w) (base := base) fx (c_trimmed := c_trimmed) F_multiplied
    have c_multiplied : Cal P w K mg base 2 "multiplied" (spD K p_multiplied) [] := ⟨_, fd_multiplied, ["p", "one", "other"], [], o_multiplied, He.glo_ok X G (c0.fact 11 (f := .glo "multiplied") rfl), F_multiplied.kp, (F_multiplied.bindsN fun _ _ _ _ _ _ us hl => match us, hl with | [_, _, _], _ => rfl), .nil⟩
    have o_parted := ok_parted (P := P) (w := w) (base := base) fx (c_inverse := c_inverse) (c_trimmed := c_trimmed) F_parted
    have c_parted : Cal P w K mg base 2 "parted" (spD K p_parted) [] := ⟨_, fd_parted, ["p", "one", "other"], [], o_parted, He.glo_ok X G (c0.fact 13 (f := .glo "parted") rfl), F_parted.kp, (F_parted.bindsN fun _ _ _ _ _ _ us hl => match us, hl with | [_, _, _], _ => rfl), .nil⟩
    have o_slope_of := ok_slope_of (P := P) (w := w) (base := base) fx (c_trimmed := c_trimmed) F_slope_of
    have c_slope_of : Cal P w K mg base 2 "slope_of" (spD K p_slope_of) [] := ⟨_, fd_slope_of, ["p", "one"], [], o_slope_of, He.glo_ok X G (c0.fact 17 (f := .glo "slope_of") rfl), F_slope_of.kp, (F_slope_of.bindsN fun _ _ _ _ _ _ us hl => match us, hl with | [_, _], _ => rfl), .nil⟩
    have o_Function___eq__ := ok_Function___eq__ (P := P) (w := w) (base := base) fx (m_Curve___eq__ := m_Curve___eq__) F_Function___eq__
    have m_Function___eq__ : Met P w K mg base 2 (He.ga K "Function") "__eq__" (spD K (p_Function___eq__ K)) [] := ⟨_, fd_Function___eq__, ["self", "other"], [], He.cls_ok (c0.fact 94 (f := .cls "Function") rfl), He.meth_ok (c0.fact 32 (f := .meth "Function" "__eq__") rfl), o_Function___eq__, (F_Function___eq__.bindsN fun _ _ _ _ _ _ us hl => match us, hl with | [_, _], _ => rfl), .nil⟩
    have o_parts_of := ok_parts_of (P := P) (w := w) (base := base) fx (m_Function_curve := m_Function_curve) (m_Curve_prime := m_Curve_prime) (m_Curve_polynomial := m_Curve_polynomial) (m_Function_top := m_Function_top) (m_Function_side := m_Function_side) (m_Function_bottom := m_Function_bottom) F_parts_of
    have c_parts_of : Cal P w K mg base 2 "parts_of" (spD K (p_parts_of K)) [] := ⟨_, fd_parts_of, ["function"], [], o_parts_of, He.glo_ok X G (c0.fact 35 (f := .glo "parts_of") rfl), F_parts_of.kp, (F_parts_of.bindsN fun _ _ _ _ _ _ us hl => match us, hl with | [_], _ => rfl), .nil⟩
    have o_every := ok_every (P := P) (w := w) (base := base) fx (c_trimmed := c_trimmed) F_every
    have c_every : Cal P w K mg base 2 "every" (spD K p_every) [] := ⟨_, fd_every, ["p", "poly", "first"], [], o_every, He.glo_ok X G (c0.fact 37 (f := .glo "every") rfl), F_every.kp, (F_every.bindsN fun _ _ _ _ _ _ us hl => match us, hl with | [_, _, _], _ => rfl), .nil⟩
    have o_lines_raised := ok_lines_raised (P := P) (w := w) (base := base) fx (c_lines_times := c_lines_times) F_lines_raised
    have c_lines_raised : Cal P w K mg base 2 "lines_raised" (spD K p_lines_raised) [] := ⟨_, fd_lines_raised, ["p", "lines", "count"], [], o_lines_raised, He.glo_ok X G (c0.fact 42 (f := .glo "lines_raised") rfl), F_lines_raised.kp, (F_lines_raised.bindsN fun _ _ _ _ _ _ us hl => match us, hl with | [_, _, _], _ => rfl), .nil⟩
    have o_rank_of := ok_rank_of (P := P) (w := w) (base := base) fx (c_inverse := c_inverse) F_rank_of
    have c_rank_of : Cal P w K mg base 2 "rank_of" (spD K p_rank_of) [] := ⟨_, fd_rank_of, ["p", "lines"], [], o_rank_of, He.glo_ok X G (c0.fact 44 (f := .glo "rank_of") rfl), F_rank_of.kp, (F_rank_of.bindsN fun _ _ _ _ _ _ us hl => match us, hl with | [_, _], _ => rfl), .nil⟩
    have o__law_random := ok__law_random (P := P) (w := w) (base := base) fx (c__law_hash := c__law_hash) F__law_random
    have c__law_random : Cal P w K mg base 2 "_law_random" (spG K 1 p__law_random) [] := ⟨_, fd__law_random, ["generator", "bound"], [], o__law_random, He.glo_ok X G (c0.fact 49 (f := .glo "_law_random") rfl), F__law_random.kp, (F__law_random.bindsN fun _ _ _ _ _ _ us hl => match us, hl with | [_, _], _ => rfl), .nil⟩
    have o__law_generator := ok__law_generator (P := P) (w := w) (base := base) fx (c__law_cell := c__law_cell) F__law_generator
    have c__law_generator : Cal P w K mg base 2 "_law_generator" (spN K p__law_generator) [] := ⟨_, fd__law_generator, ["script", "index"], [], o__law_generator, He.glo_ok X G (c0.fact 51 (f := .glo "_law_generator") rfl), F__law_generator.kp, (F__law_generator.bindsN fun _ _ _ _ _ _ us hl => match us, hl with | [_, _], _ => rfl), .nil⟩
    have o__law_add := ok__law_add (P := P) (w := w) (base := base) fx (c__law_trim := c__law_trim) F__law_add
    have c__law_add : Cal P w K mg base 2 "_law_add" (spD K p__law_add) [] := ⟨_, fd__law_add, ["p", "one", "other"], [], o__law_add, He.glo_ok X G (c0.fact 53 (f := .glo "_law_add") rfl), F__law_add.kp, (F__law_add.bindsN fun _ _ _ _ _ _ us hl => match us, hl with | [_, _, _], _ => rfl), .nil⟩
    have o__law_scale := ok__law_scale (P := P) (w := w) (base := base) fx (c__law_trim := c__law_trim) F__law_scale
    have c__law_scale : Cal P w K mg base 2 "_law_scale" (spD K p__law_scale) [] := ⟨_, fd__law_scale, ["p", "one", "number"], [], o__law_scale, He.glo_ok X G (c0.fact 54 (f := .glo "_law_scale") rfl), F__law_scale.kp, (F__law_scale.bindsN fun _ _ _ _ _ _ us hl => match us, hl with | [_, _, _], _ => rfl), .nil⟩
    have o__law_mul := ok__law_mul (P := P) (w := w) (base := base) fx (c__law_trim := c__law_trim) F__law_mul
    have c__law_mul : Cal P w K mg base 2 "_law_mul" (spD K p__law_mul) [] := ⟨_, fd__law_mul, ["p", "one", "other"], [], o__law_mul, He.glo_ok X G (c0.fact 55 (f := .glo "_law_mul") rfl), F__law_mul.kp, (F__law_mul.bindsN fun _ _ _ _ _ _ us hl => match us, hl with | [_, _, _], _ => rfl), .nil⟩
    have o__law_fall := ok__law_fall (P := P) (w := w) (base := base) fx (c__law_trim := c__law_trim) F__law_fall
    have c__law_fall : Cal P w K mg base 2 "_law_fall" (spD K p__law_fall) [] := ⟨_, fd__law_fall, ["p", "one"], [], o__law_fall, He.glo_ok X G (c0.fact 60 (f := .glo "_law_fall") rfl), F__law_fall.kp, (F__law_fall.bindsN fun _ _ _ _ _ _ us hl => match us, hl with | [_, _], _ => rfl), .nil⟩
    have o__law_stands := ok__law_stands (P := P) (w := w) (base := base) fx (c__law_whole_space := c__law_whole_space) (c__law_brought := c__law_brought) F__law_stands
    have c__law_stands : Cal P w K mg base 2 "_law_stands" (spD K p__law_stands) [] := ⟨_, fd__law_stands, ["told", "lines"], [], o__law_stands, He.glo_ok X G (c0.fact 67 (f := .glo "_law_stands") rfl), F__law_stands.kp, (F__law_stands.bindsN fun _ _ _ _ _ _ us hl => match us, hl with | [_, _], _ => rfl), .nil⟩
    have o__law_rank := ok__law_rank (P := P) (w := w) (base := base) fx (c__law_back := c__law_back) F__law_rank
    have c__law_rank : Cal P w K mg base 2 "_law_rank" (spD K p__law_rank) [] := ⟨_, fd__law_rank, ["p", "rows"], [], o__law_rank, He.glo_ok X G (c0.fact 68 (f := .glo "_law_rank") rfl), F__law_rank.kp, (F__law_rank.bindsN fun _ _ _ _ _ _ us hl => match us, hl with | [_, _], _ => rfl), .nil⟩
    have o_is_poly_list := ok_is_poly_list (P := P) (w := w) (base := base) fx (c_is_between := c_is_between) F_is_poly_list
    have c_is_poly_list : Cal P w K mg base 3 "is_poly_list" (spD K p_is_poly_list) [] := ⟨_, fd_is_poly_list, ["p", "value"], [], o_is_poly_list, He.glo_ok X G (c0.fact 3 (f := .glo "is_poly_list") rfl), F_is_poly_list.kp, (F_is_poly_list.bindsN fun _ _ _ _ _ _ us hl => match us, hl with | [_, _], _ => rfl), .nil⟩
    have o_lessened := ok_lessened (P := P) (w := w) (base := base) fx (c_added := c_added) (c_negated := c_negated) F_lessened
    have c_lessened : Cal P w K mg base 3 "lessened" (spD K p_lessened) [] := ⟨_, fd_lessened, ["p", "one", "other"], [], o_lessened, He.glo_ok X G (c0.fact 9 (f := .glo "lessened") rfl), F_lessened.kp, (F_lessened.bindsN fun _ _ _ _ _ _ us hl => match us, hl with | [_, _, _], _ => rfl), .nil⟩
    have o_power_of := ok_power_of (P := P) (w := w) (base := base) fx (c_multiplied := c_multiplied) F_power_of
    have c_power_of : Cal P w K mg base 3 "power_of" (spD K p_power_of) [] := ⟨_, fd_power_of, ["p", "one", "count"], [], o_power_of, He.glo_ok X G (c0.fact 12 (f := .glo "power_of") rfl), F_power_of.kp, (F_power_of.bindsN fun _ _ _ _ _ _ us hl => match us, hl with | [_, _, _], _ => rfl), .nil⟩
    have o_whole_part := ok_whole_part (P := P) (w := w) (base := base) fx (c_parted := c_parted) F_whole_part
    have c_whole_part : Cal P w K mg base 3 "whole_part" (spD K p_whole_part) [] := ⟨_, fd_whole_part, ["p", "one", "other"], [], o_whole_part, He.glo_ok X G (c0.fact 14 (f := .glo "whole_part") rfl), F_whole_part.kp, (F_whole_part.bindsN fun _ _ _ _ _ _ us hl => match us, hl with | [_, _, _], _ => rfl), .nil⟩
    have o__law_power := ok__law_power (P := P) (w := w) (base := base) fx (c__law_mul := c__law_mul) F__law_power
    have c__law_power : Cal P w K mg base 3 "_law_power" (spD K p__law_power) [] := ⟨_, fd__law_power, ["p", "one", "count"], [], o__law_power, He.glo_ok X G (c0.fact 56 (f := .glo "_law_power") rfl), F__law_power.kp, (F__law_power.bindsN fun _ _ _ _ _ _ us hl => match us, hl with | [_, _, _], _ => rfl), .nil⟩
    have o__law_rest := ok__law_rest (P := P) (w := w) (base := base) fx (c__law_back := c__law_back) (c__law_add := c__law_add) (c__law_scale := c__law_scale) (c__law_mul := c__law_mul) F__law_rest
    have c__law_rest : Cal P w K mg base 3 "_law_rest" (spD K p__law_rest) [] := ⟨_, fd__law_rest, ["p", "one", "other"], [], o__law_rest, He.glo_ok X G (c0.fact 58 (f := .glo "_law_rest") rfl), F__law_rest.kp, (F__law_rest.bindsN fun _ _ _ _ _ _ us hl => match us, hl with | [_, _, _], _ => rfl), .nil⟩
    have o__law_last_rank := ok__law_last_rank (P := P) (w := w) (base := base) fx (c__law_rank := c__law_rank) (c__law_brought := c__law_brought) F__law_last_rank
    have c__law_last_rank : Cal P w K mg base 3 "_law_last_rank" (spD K p__law_last_rank) [] := ⟨_, fd__law_last_rank, ["told", "lines"], [], o__law_last_rank, He.glo_ok X G (c0.fact 69 (f := .glo "_law_last_rank") rfl), F__law_last_rank.kp, (F__law_last_rank.bindsN fun _ _ _ _ _ _ us hl => match us, hl with | [_, _], _ => rfl), .nil⟩
    have o_check_poly := ok_check_poly (P := P) (w := w) (base := base) fx (c_is_poly_list := c_is_poly_list) F_check_poly
    have c_check_poly : Cal P w K mg base 4 "check_poly" (spD K p_check_poly) [] := ⟨_, fd_check_poly, ["p", "value"], [], o_check_poly, He.glo_ok X G (c0.fact 4 (f := .glo "check_poly") rfl), F_check_poly.kp, (F_check_poly.bindsN fun _ _ _ _ _ _ us hl => match us, hl with | [_, _], _ => rfl), .nil⟩
    have o_common_with := ok_common_with (P := P) (w := w) (base := base) fx (c_inverse := c_inverse) (c_parted := c_parted) (c_lessened := c_lessened) (c_scaled := c_scaled) (c_multiplied := c_multiplied) F_common_with
    have c_common_with : Cal P w K mg base 4 "common_with" (spD K p_common_with) [] := ⟨_, fd_common_with, ["p", "one", "other"], [], o_common_with, He.glo_ok X G (c0.fact 15 (f := .glo "common_with") rfl), F_common_with.kp, (F_common_with.bindsN fun _ _ _ _ _ _ us hl => match us, hl with | [_, _, _], _ => rfl), .nil⟩
    have o_tops_over := ok_tops_over (P := P) (w := w) (base := base) fx (c_parts_of := c_parts_of) (c_power_of := c_power_of) (c_multiplied := c_multiplied) F_tops_over
    have c_tops_over : Cal P w K mg base 4 "tops_over" (spD K (p_tops_over K)) [] := ⟨_, fd_tops_over, ["function"], [], o_tops_over, He.glo_ok X G (c0.fact 38 (f := .glo "tops_over") rfl), F_tops_over.kp, (F_tops_over.bindsN fun _ _ _ _ _ _ us hl => match us, hl with | [_], _ => rfl), .nil⟩
    have o_matrix_of := ok_matrix_of (P := P) (w := w) (base := base) fx (c_power_of := c_power_of) (m_Curve_prime := m_Curve_prime) (m_Curve_genus := m_Curve_genus) (m_Curve_polynomial := m_Curve_polynomial) F_matrix_of
    have c_matrix_of : Cal P w K mg base 4 "matrix_of" (spX K (p_matrix_of K)) [] := ⟨_, fd_matrix_of, ["curve"], [], o_matrix_of, He.glo_ok X G (c0.fact 43 (f := .glo "matrix_of") rfl), F_matrix_of.kp, (F_matrix_of.bindsN fun _ _ _ _ _ _ us hl => match us, hl with | [_], _ => rfl), .nil⟩
    have o__law_common := ok__law_common (P := P) (w := w) (base := base) fx (c__law_rest := c__law_rest) F__law_common
    have c__law_common : Cal P w K mg base 4 "_law_common" (spD K p__law_common) [] := ⟨_, fd__law_common, ["p", "one", "other"], [], o__law_common, He.glo_ok X G (c0.fact 59 (f := .glo "_law_common") rfl), F__law_common.kp, (F__law_common.bindsN fun _ _ _ _ _ _ us hl => match us, hl with | [_, _, _], _ => rfl), .nil⟩
    have o__law_matrix := ok__law_matrix (P := P) (w := w) (base := base) fx (c__law_power := c__law_power) F__law_matrix
    have c__law_matrix : Cal P w K mg base 4 "_law_matrix" (spD K p__law_matrix) [] := ⟨_, fd__law_matrix, ["told"], [], o__law_matrix, He.glo_ok X G (c0.fact 63 (f := .glo "_law_matrix") rfl), F__law_matrix.kp, (F__law_matrix.bindsN fun _ _ _ _ _ _ us hl => match us, hl with | [_], _ => rfl), .nil⟩
    have o_common_of := ok_common_of (P := P) (w := w) (base := base) fx (c_common_with := c_common_with) F_common_of
    have c_common_of : Cal P w K mg base 5 "common_of" (spD K p_common_of) [] := ⟨_, fd_common_of, ["p", "one", "other"], [], o_common_of, He.glo_ok X G (c0.fact 16 (f := .glo "common_of") rfl), F_common_of.kp, (F_common_of.bindsN fun _ _ _ _ _ _ us hl => match us, hl with | [_, _, _], _ => rfl), .nil⟩
    have o_descent_matrix := ok_descent_matrix (P := P) (w := w) (base := base) fx (c_check_curve := c_check_curve) (c_matrix_of := c_matrix_of) F_descent_matrix
    have c_descent_matrix : Cal P w K mg base 5 "descent_matrix" (spX K (p_descent_matrix K)) [] := ⟨_, fd_descent_matrix, ["curve"], [], o_descent_matrix, He.glo_ok X G (c0.fact 46 (f := .glo "descent_matrix") rfl), F_descent_matrix.kp, (F_descent_matrix.bindsN fun _ _ _ _ _ _ us hl => match us, hl with | [_], _ => rfl), .nil⟩
    have k_descent_matrix : CalK P w K mg base 5 "descent_matrix" "curve" (spX K (p_descent_matrix K)) := ⟨_, fd_descent_matrix, o_descent_matrix, He.glo_ok X G (c0.fact 46 (f := .glo "descent_matrix") rfl), F_descent_matrix.kp, bindsK F_descent_matrix fun _ _ _ _ _ _ ws hl => match ws, hl with | [_], _ => rfl⟩
    have o_standing := ok_standing (P := P) (w := w) (base := base) fx (c_check_curve := c_check_curve) (c_rank_of := c_rank_of) (c_lines_raised := c_lines_raised) (c_matrix_of := c_matrix_of) (m_Curve_prime := m_Curve_prime) (m_Curve_genus := m_Curve_genus) F_standing
    have c_standing : Cal P w K mg base 5 "standing" (spD K (p_standing K)) [] := ⟨_, fd_standing, ["curve"], [], o_standing, He.glo_ok X G (c0.fact 47 (f := .glo "standing") rfl), F_standing.kp, (F_standing.bindsN fun _ _ _ _ _ _ us hl => match us, hl with | [_], _ => rfl), .nil⟩
    have k_standing : CalK P w K mg base 5 "standing" "curve" (spD K (p_standing K)) := ⟨_, fd_standing, o_standing, He.glo_ok X G (c0.fact 47 (f := .glo "standing") rfl), F_standing.kp, bindsK F_standing fun _ _ _ _ _ _ ws hl => match ws, hl with | [_], _ => rfl⟩
    have o__law_any_curve := ok__law_any_curve (P := P) (w := w) (base := base) fx (c__law_random := c__law_random) (c__law_common := c__law_common) (c__law_fall := c__law_fall) F__law_any_curve
    have c__law_any_curve : Cal P w K mg base 5 "_law_any_curve" (spG K 86 p__law_any_curve) [] := ⟨_, fd__law_any_curve, ["generator"], [], o__law_any_curve, He.glo_ok X G (c0.fact 61 (f := .glo "_law_any_curve") rfl), F__law_any_curve.kp, (F__law_any_curve.bindsN fun _ _ _ _ _ _ us hl => match us, hl with | [_], _ => rfl), .nil⟩
    have o_is_curve_poly := ok_is_curve_poly (P := P) (w := w) (base := base) fx (c_common_of := c_common_of) (c_is_poly_list := c_is_poly_list) (c_slope_of := c_slope_of) F_is_curve_poly
    have c_is_curve_poly : Cal P w K mg base 6 "is_curve_poly" (spD K p_is_curve_poly) [] := ⟨_, fd_is_curve_poly, ["p", "value"], [], o_is_curve_poly, He.glo_ok X G (c0.fact 24 (f := .glo "is_curve_poly") rfl), F_is_curve_poly.kp, (F_is_curve_poly.bindsN fun _ _ _ _ _ _ us hl => match us, hl with | [_, _], _ => rfl), .nil⟩
    have o_least_parts := ok_least_parts (P := P) (w := w) (base := base) fx (c_common_of := c_common_of) (c_inverse := c_inverse) (c_whole_part := c_whole_part) (c_scaled := c_scaled) F_least_parts
    have c_least_parts : Cal P w K mg base 6 "least_parts" (spD K p_least_parts) [] := ⟨_, fd_least_parts, ["p", "top", "side", "bottom"], [], o_least_parts, He.glo_ok X G (c0.fact 33 (f := .glo "least_parts") rfl), F_least_parts.kp, (F_least_parts.bindsN fun _ _ _ _ _ _ us hl => match us, hl with | [_, _, _, _], _ => rfl), .nil⟩
    have o_Curve___init__ := ok_Curve___init__ (P := P) (w := w) (base := base) fx (c_check_prime := c_check_prime) (c_is_curve_poly := c_is_curve_poly) F_Curve___init__
    have m_Curve : Mak P w K mg base 7 "Curve" (He.ga K "Curve") (spI K (He.ga K "Curve") (p_Curve___init__ K)) [] := ⟨_, fd_Curve___init__, ["self", "p", "f"], [], He.mkr_ok (c0.fact 19 (f := .mkr "Curve") rfl), o_Curve___init__, He.glo_ok X G (c0.fact 18 (f := .glo "Curve") rfl), (F_Curve___init__.bindsN fun _ _ _ _ _ _ us hl => match us, hl with | [_, _, _], _ => rfl), .nil⟩
    have o_Function___init__ := ok_Function___init__ (P := P) (w := w) (base := base) fx (c_least_parts := c_least_parts) (c_check_poly := c_check_poly) (m_Curve_prime := m_Curve_prime) F_Function___init__
    have m_Function : Mak P w K mg base 7 "Function" (He.ga K "Function") (spI K (He.ga K "Function") (p_Function___init__ K)) [] := ⟨_, fd_Function___init__, ["self", "curve", "top", "side", "bottom"], [], He.mkr_ok (c0.fact 27 (f := .mkr "Function") rfl), o_Function___init__, He.glo_ok X G (c0.fact 26 (f := .glo "Function") rfl), (F_Function___init__.bindsN fun _ _ _ _ _ _ us hl => match us, hl with | [_, _, _, _, _], _ => rfl), .nil⟩
    have o_made := ok_made (P := P) (w := w) (base := base) fx (c_least_parts := c_least_parts) (m_Curve_prime := m_Curve_prime) (m_Function := m_Function) F_made
    have c_made : Cal P w K mg base 9 "made" (spD K (p_made K)) [] := ⟨_, fd_made, ["curve", "top", "side", "bottom"], [], o_made, He.glo_ok X G (c0.fact 34 (f := .glo "made") rfl), F_made.kp, (F_made.bindsN fun _ _ _ _ _ _ us hl => match us, hl with | [_, _, _, _], _ => rfl), .nil⟩
    have o__law_of := ok__law_of (P := P) (w := w) (base := base) fx (m_Curve := m_Curve) F__law_of
    have c__law_of : Cal P w K mg base 9 "_law_of" (spD K (p__law_of K)) [] := ⟨_, fd__law_of, ["told"], [], o__law_of, He.glo_ok X G (c0.fact 62 (f := .glo "_law_of") rfl), F__law_of.kp, (F__law_of.bindsN fun _ _ _ _ _ _ us hl => match us, hl with | [_], _ => rfl), .nil⟩
    have o_parts_by := ok_parts_by (P := P) (w := w) (base := base) fx (c_parts_of := c_parts_of) (c_tops_over := c_tops_over) (c_multiplied := c_multiplied) (c_every := c_every) (c_made := c_made) (m_Function_curve := m_Function_curve) F_parts_by
    have c_parts_by : Cal P w K mg base 10 "parts_by" (spD K (p_parts_by K)) [] := ⟨_, fd_parts_by, ["function"], [], o_parts_by, He.glo_ok X G (c0.fact 39 (f := .glo "parts_by") rfl), F_parts_by.kp, (F_parts_by.bindsN fun _ _ _ _ _ _ us hl => match us, hl with | [_], _ => rfl), .nil⟩
    have o__law_told := ok__law_told (P := P) (w := w) (base := base) fx (c__law_of := c__law_of) (c__law_trim := c__law_trim) (m_Function := m_Function) F__law_told
    have c__law_told : Cal P w K mg base 10 "_law_told" (spD K (p__law_told K)) [] := ⟨_, fd__law_told, ["told", "numbers"], [], o__law_told, He.glo_ok X G (c0.fact 66 (f := .glo "_law_told") rfl), F__law_told.kp, (F__law_told.bindsN fun _ _ _ _ _ _ us hl => match us, hl with | [_, _], _ => rfl), .nil⟩
    have o_descent_by := ok_descent_by (P := P) (w := w) (base := base) fx (c_parts_by := c_parts_by) F_descent_by
    have c_descent_by : Cal P w K mg base 11 "descent_by" (spD K (p_descent_by K)) [] := ⟨_, fd_descent_by, ["function"], [], o_descent_by, He.glo_ok X G (c0.fact 40 (f := .glo "descent_by") rfl), F_descent_by.kp, (F_descent_by.bindsN fun _ _ _ _ _ _ us hl => match us, hl with | [_], _ => rfl), .nil⟩
    have o_descent := ok_descent (P := P) (w := w) (base := base) fx (c_check_function := c_check_function) (c_descent_by := c_descent_by) F_descent
    have c_descent : Cal P w K mg base 12 "descent" (spD K (p_descent K)) [] := ⟨_, fd_descent, ["one"], [], o_descent, He.glo_ok X G (c0.fact 45 (f := .glo "descent") rfl), F_descent.kp, (F_descent.bindsN fun _ _ _ _ _ _ us hl => match us, hl with | [_], _ => rfl), .nil⟩
    have o__law_right := ok__law_right (P := P) (w := w) (base := base) fx (k_descent_matrix := k_descent_matrix) (k_standing := k_standing) (c__law_any_curve := c__law_any_curve) (c_descent_matrix := c_descent_matrix) (c__law_of := c__law_of) (c__law_matrix := c__law_matrix) (c__law_told := c__law_told) (c__law_brought := c__law_brought) (c_standing := c_standing) (c__law_last_rank := c__law_last_rank) (c__law_random := c__law_random) (c_descent := c_descent) (c__law_stands := c__law_stands) (m_Function___eq__ := m_Function___eq__) F__law_right
    have c__law_right : Cal P w K mg base 13 "_law_right" (spG K 95 p__law_right78) [] := ⟨_, fd__law_right, ["generator"], [], o__law_right, He.glo_ok X G (c0.fact 70 (f := .glo "_law_right") rfl), F__law_right.kp, (F__law_right.bindsN fun _ _ _ _ _ _ us hl => match us, hl with | [_], _ => rfl), .nil⟩
    exact ok_law (P := P) (w := w) (base := base) fx (c__law_right := c__law_right) (c_descent_matrix := c_descent_matrix) (c_standing := c_standing) (c__law_generator := c__law_generator) (m_Curve := m_Curve) F_law
end Cw
open PySem PySem.W PySem.Calls PyProof.Rows
theorem PySem.Challenge.cw_curvewords_k78_whole_matrices_of_descent_holds : PySem.Challenge.rw_curvewords_k78_whole_matrices_of_descent.Holds := by
  w_on; o_law
  refine HandSHeadRun.head_any (r := OpenLaw.row PySem.Challenge.rw_curvewords_k78_whole_matrices_of_descent) (q := view (OpenLaw.row PySem.Challenge.rw_curvewords_k78_whole_matrices_of_descent).prog [74]) (H := Cw.hk) (ob := Cw.ob) (M := 20000) (loose := Cw.loose) (d := HandSHeadRun.topDef (OpenLaw.row PySem.Challenge.rw_curvewords_k78_whole_matrices_of_descent).prog 74) (kwd := []) Cw.ob_eq
    (by kernel_rfl) (fun s => by kernel_rfl) Cw.run (by kernel_rfl) (by kernel_rfl) (by kernel_rfl) (by rfl) (by first | assumption | decide +kernel) (by decide +kernel) ⟨rfl, rfl, rfl, rfl, rfl, by decide +kernel⟩ ?hw ?hc
  case hw => w_witness2
  case hc =>
    refine L2.walk_ofE (l := PySem.Challenge.rw_curvewords_k78_whole_matrices_of_descent) (n := 63) (k := 14) (x := "script") (CX := L2.CX0) rfl (by decide) (by kernel_rfl) ⟨rfl, by decide, by decide⟩ ?F (fun _ _ _ _ z => z)
    intro w mg fa h Y G hmg0
    obtain ⟨K, KX, c0, xk⟩ := Y
    have hmg : mg ("law" : PySem.Str) = some (.ref fa) := by
      have e : (HandSHeadRun.topDef (OpenLaw.row PySem.Challenge.rw_curvewords_k78_whole_matrices_of_descent).prog 74).name = ("law" : PySem.Str) := by kernel_rfl
      rw [← e]
      exact hmg0
    obtain ⟨fd, hb, hF⟩ := Cw.facts (P := (PySem.Challenge.rw_curvewords_k78_whole_matrices_of_descent).prog) (w := w) KX G hmg c0 xk
    exact ⟨K, fd, _, KX, hb, fun H a ns hl _ hS => ⟨H, [.scr ns], .bl true, L2.Same.refl _, Cw.Reps.one ⟨a, rfl, hS⟩, ⟨ns, rfl, trivial, rfl⟩, fun v F' H' _ r => by cases r; rfl⟩, hF⟩
