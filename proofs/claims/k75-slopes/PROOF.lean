import PyProof.Rows.All
import Wide.All
import OpenK.AllK
import Wide.FinOn
import KE.KStateDown
import HandS.ForMost
import HandS.Codes
import HandS.Style
import HandS.Defaults
import HandS.HeadHook2
import HandS.IsInst
import HandS.OwnEq
import HandS.NoneIn
import HandS.RaiseMore
import HandS.WideBits
import HandS.Dict
import HandS.Flt
import PySem.Challenge.RW_curvewords_k75_whole_slopes_or_none
import HandS.Head0
import HandS.Head1
import HandS.Head2
import HandS.HeadEnd
import HandS.HeadHook1
set_option Elab.async false
set_option linter.all false
set_option maxRecDepth 100000
set_option autoImplicit false
set_option maxHeartbeats 4000000
/-! Cw: data by value over the hand layer: what a heap shows of plain data (Rep), what an expression and a statement do with it (EvD, StD). -/
namespace Cw
open PySem PySem.Spec PyProof.Rows L2
abbrev Fg := PySem.W.Frag

/-- plain data -/
inductive D where
  | non | bl (b : Bool) | int (i : Int) | str (x : Str)
  | lst (xs : List D) | tup (xs : List D)
  | scr (ns : List Int)
  | ins (C : Addr) (ns : List Str) (xs : List D)

mutual
def Rep (K : Fg) (F : Hp) : D → V → Prop
  | .non, v => v = .non
  | .bl b, v => v = .bl b
  | .int i, v => v = .int i
  | .str x, v => v = .str x
  | .lst ds, v => ∃ a vs, v = .ref a ∧ F a = some (.lst vs) ∧ Reps K F ds vs
  | .tup ds, v => ∃ a vs, v = .ref a ∧ SqT K F a vs ∧ Reps K F ds vs
  | .scr ns, v => ∃ a, v = .ref a ∧ SqL K F a (ns.map V.int)
  | .ins C ns ds, v => ∃ a dx us, v = .ref a ∧ F a = some (.ins C dx (ns.zip us)) ∧ us.length = ns.length ∧ Reps K F ds us
def Reps (K : Fg) (F : Hp) : List D → List V → Prop
  | [], vs => vs = []
  | d :: ds, vs => ∃ v r, vs = v :: r ∧ Rep K F d v ∧ Reps K F ds r
end

theorem sqT_mono {K : Fg} {F F' : Hp} (e : Same F F') {a : Addr} {xs : List V} (h : SqT K F a xs) : SqT K F' a xs := by
  rcases h with (h | ⟨o, h⟩) | h
  · exact .inl (.inl (e _ _ h))
  · exact .inl (.inr ⟨o, e _ _ h⟩)
  · exact .inr h
theorem sqL_mono {K : Fg} {F F' : Hp} (e : Same F F') {a : Addr} {xs : List V} (h : SqL K F a xs) : SqL K F' a xs := by
  rcases h with (h | ⟨o, h⟩) | h
  · exact .inl (.inl (e _ _ h))
  · exact .inl (.inr ⟨o, e _ _ h⟩)
  · exact .inr h
mutual
theorem Rep.mono {K : Fg} {F F' : Hp} (e : Same F F') : ∀ (d : D) (v : V), Rep K F d v → Rep K F' d v
  | .non, _, h => h
  | .bl _, _, h => h
  | .int _, _, h => h
  | .str _, _, h => h
  | .lst ds, _, h => by
    obtain ⟨a, vs, rfl, h1, h2⟩ := h
    exact ⟨a, vs, rfl, e _ _ h1, Reps.mono e ds vs h2⟩
  | .tup ds, _, h => by
    obtain ⟨a, vs, rfl, h1, h2⟩ := h
    exact ⟨a, vs, rfl, sqT_mono e h1, Reps.mono e ds vs h2⟩
  | .scr ns, _, h => by
    obtain ⟨a, rfl, h1⟩ := h
    exact ⟨a, rfl, sqL_mono e h1⟩
  | .ins C ns ds, _, h => by
    obtain ⟨a, dx, us, rfl, h1, h2, h3⟩ := h
    exact ⟨a, dx, us, rfl, e _ _ h1, h2, Reps.mono e ds us h3⟩
theorem Reps.mono {K : Fg} {F F' : Hp} (e : Same F F') : ∀ (ds : List D) (vs : List V), Reps K F ds vs → Reps K F' ds vs
  | [], _, h => h
  | d :: ds, _, h => by
    obtain ⟨v, r, rfl, h1, h2⟩ := h
    exact ⟨v, r, rfl, Rep.mono e d v h1, Reps.mono e ds r h2⟩
end
theorem Reps.len {K : Fg} {F : Hp} : ∀ {ds : List D} {vs : List V}, Reps K F ds vs → vs.length = ds.length
  | [], _, h => by cases h; rfl
  | d :: ds, _, h => by
    obtain ⟨v, r, rfl, h1, h2⟩ := h
    rw [List.length_cons, List.length_cons, Reps.len h2]
theorem Reps.get {K : Fg} {F : Hp} : ∀ {ds : List D} {vs : List V} {i : Nat} {d : D}, Reps K F ds vs → ds[i]? = some d → ∃ v, vs[i]? = some v ∧ Rep K F d v
  | [], _, i, d, h, e => by simp at e
  | c :: ds, _, 0, d, h, e => by
    obtain ⟨v, r, rfl, h1, h2⟩ := h
    have : c = d := by simpa using e
    subst this
    exact ⟨v, rfl, h1⟩
  | c :: ds, _, i + 1, d, h, e => by
    obtain ⟨v, r, rfl, h1, h2⟩ := h
    obtain ⟨u, hu, hr⟩ := Reps.get (i := i) h2 (by simpa using e)
    exact ⟨u, by simpa using hu, hr⟩
theorem Reps.app {K : Fg} {F : Hp} : ∀ {ds es : List D} {vs us : List V}, Reps K F ds vs → Reps K F es us → Reps K F (ds ++ es) (vs ++ us)
  | [], _, _, _, h, k => by cases h; exact k
  | d :: ds, _, _, _, h, k => by
    obtain ⟨v, r, rfl, h1, h2⟩ := h
    exact ⟨v, r ++ _, rfl, h1, Reps.app h2 k⟩
theorem Reps.one {K : Fg} {F : Hp} {d : D} {v : V} (h : Rep K F d v) : Reps K F [d] [v] := ⟨v, [], rfl, h, rfl⟩
theorem Reps.cons {K : Fg} {F : Hp} {d : D} {v : V} {ds : List D} {vs : List V} (h : Rep K F d v) (k : Reps K F ds vs) : Reps K F (d :: ds) (v :: vs) := ⟨v, vs, rfl, h, k⟩
theorem Reps.set {K : Fg} {F : Hp} : ∀ {ds : List D} {vs : List V} (i : Nat) {d : D} {v : V}, Reps K F ds vs → Rep K F d v → Reps K F (ds.set i d) (vs.set i v)
  | [], _, i, d, v, h, k => by cases h; exact rfl
  | c :: ds, _, 0, d, v, h, k => by
    obtain ⟨u, r, rfl, h1, h2⟩ := h
    exact ⟨v, r, rfl, k, h2⟩
  | c :: ds, _, i + 1, d, v, h, k => by
    obtain ⟨u, r, rfl, h1, h2⟩ := h
    exact ⟨u, r.set i v, rfl, h1, Reps.set i h2 k⟩
theorem Reps.take {K : Fg} {F : Hp} : ∀ {ds : List D} {vs : List V} (n : Nat), Reps K F ds vs → Reps K F (ds.take n) (vs.take n)
  | [], _, n, h => by cases h; simp [Reps]
  | _ :: _, _, 0, h => rfl
  | d :: ds, _, n + 1, h => by
    obtain ⟨u, r, rfl, h1, h2⟩ := h
    exact ⟨u, r.take n, rfl, h1, Reps.take n h2⟩
theorem Reps.drop {K : Fg} {F : Hp} : ∀ {ds : List D} {vs : List V} (n : Nat), Reps K F ds vs → Reps K F (ds.drop n) (vs.drop n)
  | [], _, n, h => by cases h; simp [Reps]
  | _ :: _, _, 0, h => h
  | d :: ds, _, n + 1, h => by
    obtain ⟨u, r, rfl, h1, h2⟩ := h
    exact Reps.drop n h2
theorem Reps.rev {K : Fg} {F : Hp} : ∀ {ds : List D} {vs : List V}, Reps K F ds vs → Reps K F ds.reverse vs.reverse
  | [], _, h => by cases h; exact rfl
  | d :: ds, _, h => by
    obtain ⟨u, r, rfl, h1, h2⟩ := h
    rw [List.reverse_cons, List.reverse_cons]
    exact Reps.app (Reps.rev h2) (Reps.one h1)

/-! ### a step of the heap: F what is known of H -/
structure Step (F H F' H' : Hp) : Prop where
  ff : Same F F'
  hh : Same H H'
  fh : Same F' H'
  nw : ∀ a, F' a ≠ none → F a ≠ none ∨ H a = none
theorem Step.refl {F H : Hp} (h : Same F H) : Step F H F H := ⟨Same.refl _, Same.refl _, h, fun _ n => .inl n⟩
theorem Step.trans {F H F1 H1 F2 H2 : Hp} (a : Step F H F1 H1) (b : Step F1 H1 F2 H2) : Step F H F2 H2 :=
  ⟨a.ff.trans b.ff, a.hh.trans b.hh, b.fh, fun x n => (b.nw x n).elim (fun m => a.nw x m) fun m => .inr (a.hh.free m)⟩
theorem same_new {H : Hp} {p : Addr} {o : HO} (h : H p = none) : Same H (upd H p o) := fun b u e => by
  rw [upd_ne (ne_of_none e h)]
  exact e
theorem Step.newF {F H : Hp} {p : Addr} {o : HO} (h : Same F H) (hp : H p = none) : Step F H (upd F p o) (upd H p o) where
  ff := same_new (h.free hp)
  hh := same_new hp
  fh := fun b u e => by
    by_cases q : b = p
    · subst q
      rw [upd_same] at e ⊢
      exact e
    · rw [upd_ne q] at e ⊢
      exact h b u e
  nw := fun a n => by
    by_cases q : a = p
    · subst q
      exact .inr hp
    · rw [upd_ne q] at n
      exact .inl n
theorem Step.newP {F H : Hp} {p : Addr} {o : HO} (h : Same F H) (hp : H p = none) : Step F H F (upd H p o) :=
  ⟨Same.refl _, same_new hp, h.trans (same_new hp), fun _ n => .inl n⟩
/-- a private object changes -/
theorem Step.mutP {F0 H0 F H : Hp} {p : Addr} {o : HO} (s : Step F0 H0 F H) (h0 : H0 p = none) (hf : F p = none) : Step F0 H0 F (upd H p o) where
  ff := s.ff
  hh := fun b u e => by
    rw [upd_ne (ne_of_none e h0)]
    exact s.hh b u e
  fh := fun b u e => by
    rw [upd_ne (ne_of_none e hf)]
    exact s.fh b u e
  nw := s.nw
/-- a private object is shown -/
theorem Step.pub {F0 H0 F H : Hp} {p : Addr} {o : HO} (s : Step F0 H0 F H) (h0 : H0 p = none) (hf : F p = none) (hp : H p = some o) : Step F0 H0 (upd F p o) H where
  ff := s.ff.trans (same_new hf)
  hh := s.hh
  fh := fun b u e => by
    by_cases q : b = p
    · subst q
      rw [upd_same] at e
      rw [hp]
      exact e
    · rw [upd_ne q] at e
      exact s.fh b u e
  nw := fun a n => by
    by_cases q : a = p
    · subst q
      exact .inr h0
    · rw [upd_ne q] at n
      exact s.nw a n
theorem Step.kp {F H F' H' : Hp} (s : Step F H F' H') {p : Addr} {o : HO} (hp : H p = some o) (hf : F p = none) : H' p = some o ∧ F' p = none := by
  refine ⟨s.hh _ _ hp, ?_⟩
  cases q : F' p with
  | none => rfl
  | some u =>
    rcases s.nw p (by rw [q]; exact fun z => nomatch z) with z | z
    · exact absurd hf z
    · rw [hp] at z
      cases z

/-! ### slots -/
inductive Sl where
  | un | val (d : D) | own (ds : List D)
def SlOk (K : Fg) (H0 F H : Hp) : Sl → Option V → Prop
  | .un, _ => True
  | .val d, o => ∃ v, o = some v ∧ Rep K F d v
  | .own ds, o => ∃ a vs, o = some (.ref a) ∧ H a = some (.lst vs) ∧ F a = none ∧ H0 a = none ∧ Reps K F ds vs
abbrev Ctx := List Sl
structure SOk (K : Fg) (F0 H0 F H : Hp) (σ : L2.St) (G : Ctx) : Prop where
  st : Step F0 H0 F H
  len : σ.length = G.length
  sl : ∀ (i : Nat) (s : Sl), G[i]? = some s → ∃ o, σ[i]? = some o ∧ SlOk K H0 F H s o
  ap : ∀ (i j : Nat) (ds es : List D) (a : Addr), G[i]? = some (.own ds) → G[j]? = some (.own es) → σ[i]? = some (some (.ref a)) → σ[j]? = some (some (.ref a)) → i = j
section
variable {K : Fg} {F0 H0 F H F' H' : Hp} {σ : L2.St} {G : Ctx}
theorem SOk.fh (s : SOk K F0 H0 F H σ G) : Same F H := s.st.fh
theorem SlOk.step {s : Sl} {o : Option V} (h : SlOk K H0 F H s o) (t : Step F H F' H') : SlOk K H0 F' H' s o := by
  cases s with
  | un => trivial
  | val d =>
    obtain ⟨v, e, r⟩ := h
    exact ⟨v, e, Rep.mono t.ff _ _ r⟩
  | own ds =>
    obtain ⟨a, vs, e, h1, h2, h3, h4⟩ := h
    obtain ⟨k1, k2⟩ := t.kp h1 h2
    exact ⟨a, vs, e, k1, k2, h3, Reps.mono t.ff _ _ h4⟩
theorem SOk.step (s : SOk K F0 H0 F H σ G) (t : Step F H F' H') : SOk K F0 H0 F' H' σ G :=
  ⟨s.st.trans t, s.len, fun i c e => let ⟨o, h1, h2⟩ := s.sl i c e; ⟨o, h1, h2.step t⟩, s.ap⟩
theorem SOk.val (s : SOk K F0 H0 F H σ G) {i : Nat} {d : D} (e : G[i]? = some (.val d)) : ∃ v, σ[i]? = some (some v) ∧ Rep K F d v := by
  obtain ⟨o, h1, v, rfl, h2⟩ := s.sl i _ e
  exact ⟨v, h1, h2⟩
theorem SOk.own (s : SOk K F0 H0 F H σ G) {i : Nat} {ds : List D} (e : G[i]? = some (.own ds)) : ∃ a vs, σ[i]? = some (some (.ref a)) ∧ H a = some (.lst vs) ∧ F a = none ∧ H0 a = none ∧ Reps K F ds vs := by
  obtain ⟨o, h1, a, vs, rfl, h2⟩ := s.sl i _ e
  exact ⟨a, vs, h1, h2⟩
theorem get_set {α : Type} {l : List α} {i j : Nat} {x y : α} (h : (l.set i x)[j]? = some y) : (i = j ∧ y = x ∧ i < l.length) ∨ (i ≠ j ∧ l[j]? = some y) := by
  by_cases q : i = j
  · subst q
    by_cases hl : i < l.length
    · rw [List.getElem?_set_self hl] at h
      exact .inl ⟨rfl, (Option.some.inj h).symm, hl⟩
    · rw [List.getElem?_eq_none (by simpa using hl)] at h
      cases h
  · rw [List.getElem?_set_ne q] at h
    exact .inr ⟨q, h⟩
theorem SOk.set (s : SOk K F0 H0 F H σ G) {i : Nat} {d : D} {v : V} (r : Rep K F d v) : SOk K F0 H0 F H (σ.set i (some v)) (G.set i (.val d)) where
  st := s.st
  len := by rw [List.length_set, List.length_set, s.len]
  sl := fun j c e => by
    rcases get_set e with ⟨rfl, rfl, hl⟩ | ⟨ne, e'⟩
    · exact ⟨some v, by rw [List.getElem?_set_self (by rw [s.len]; exact hl)], v, rfl, r⟩
    · obtain ⟨o, h1, h2⟩ := s.sl j c e'
      exact ⟨o, by rw [List.getElem?_set_ne ne]; exact h1, h2⟩
  ap := fun j k ds es a e1 e2 h1 h2 => by
    rcases get_set e1 with ⟨_, q, _⟩ | ⟨n1, e1'⟩
    · cases q
    · rcases get_set e2 with ⟨_, q, _⟩ | ⟨n2, e2'⟩
      · cases q
      · rw [List.getElem?_set_ne n1] at h1
        rw [List.getElem?_set_ne n2] at h2
        exact s.ap j k ds es a e1' e2' h1 h2
/-- a private list comes to a slot -/
theorem SOk.setOwn (s : SOk K F0 H0 F H σ G) {i : Nat} {p : Addr} {vs : List V} {ds : List D} (hp : H p = some (.lst vs)) (hf : F p = none) (h0 : H0 p = none) (r : Reps K F ds vs)
    (new : ∀ (j : Nat) (es : List D), G[j]? = some (.own es) → σ[j]? ≠ some (some (.ref p))) : SOk K F0 H0 F H (σ.set i (some (.ref p))) (G.set i (.own ds)) where
  st := s.st
  len := by rw [List.length_set, List.length_set, s.len]
  sl := fun j c e => by
    rcases get_set e with ⟨rfl, rfl, hl⟩ | ⟨ne, e'⟩
    · exact ⟨some (.ref p), by rw [List.getElem?_set_self (by rw [s.len]; exact hl)], p, vs, rfl, hp, hf, h0, r⟩
    · obtain ⟨o, h1, h2⟩ := s.sl j c e'
      exact ⟨o, by rw [List.getElem?_set_ne ne]; exact h1, h2⟩
  ap := fun j k ds' es a e1 e2 h1 h2 => by
    rcases get_set e1 with ⟨r1, _, l1⟩ | ⟨n1, e1'⟩
    · rcases get_set e2 with ⟨r2, _, _⟩ | ⟨n2, e2'⟩
      · exact r1.symm.trans r2
      · subst r1
        rw [List.getElem?_set_self (by rw [s.len]; exact l1)] at h1
        rw [List.getElem?_set_ne n2] at h2
        have : V.ref p = V.ref a := Option.some.inj (Option.some.inj h1)
        cases this
        exact absurd h2 (new k es e2')
    · rcases get_set e2 with ⟨r2, _, l2⟩ | ⟨n2, e2'⟩
      · subst r2
        rw [List.getElem?_set_self (by rw [s.len]; exact l2)] at h2
        rw [List.getElem?_set_ne n1] at h1
        have : V.ref p = V.ref a := Option.some.inj (Option.some.inj h2)
        cases this
        exact absurd h1 (new j ds' e1')
      · rw [List.getElem?_set_ne n1] at h1
        rw [List.getElem?_set_ne n2] at h2
        exact s.ap j k _ es a e1' e2' h1 h2
/-- a private list of a slot changes in place -/
theorem SOk.mutOwn (s : SOk K F0 H0 F H σ G) {i : Nat} {p : Addr} {vs : List V} {ds es : List D} (e : G[i]? = some (.own es)) (hs : σ[i]? = some (some (.ref p))) (r : Reps K F ds vs) : SOk K F0 H0 F (upd H p (.lst vs)) σ (G.set i (.own ds)) := by
  obtain ⟨a, us, g1, g2, g3, g4, g5⟩ := s.own e
  have ea : V.ref a = V.ref p := Option.some.inj (Option.some.inj (g1.symm.trans hs))
  cases ea
  refine ⟨s.st.mutP g4 g3, by rw [List.length_set, s.len], fun j c q => ?_, fun j k ds' es' b e1 e2 h1 h2 => ?_⟩
  · rcases get_set q with ⟨rfl, rfl, hl⟩ | ⟨ne, q'⟩
    · exact ⟨some (.ref p), hs, p, vs, rfl, upd_same, g3, g4, r⟩
    · obtain ⟨o, h1, h2⟩ := s.sl j c q'
      refine ⟨o, h1, ?_⟩
      cases c with
      | un => trivial
      | val d => exact h2
      | own ds' =>
        obtain ⟨b, ws, rfl, k1, k2, k3, k4⟩ := h2
        refine ⟨b, ws, rfl, ?_, k2, k3, k4⟩
        rw [upd_ne (fun z => ?_)]
        · exact k1
        · subst z
          exact ne (s.ap i j _ _ _ e q' hs h1)
  · have f : ∀ (m : Nat) (xs : List D), (G.set i (.own ds))[m]? = some (.own xs) → ∃ ys, G[m]? = some (.own ys) := fun m xs q => by
      rcases get_set q with ⟨rfl, _, _⟩ | ⟨_, q'⟩
      · exact ⟨_, e⟩
      · exact ⟨_, q'⟩
    obtain ⟨y1, z1⟩ := f _ _ e1
    obtain ⟨y2, z2⟩ := f _ _ e2
    exact s.ap j k y1 y2 b z1 z2 h1 h2
/-- a private list is shown -/
theorem SOk.pub (s : SOk K F0 H0 F H σ G) {i : Nat} {ds : List D} (e : G[i]? = some (.own ds)) : ∃ F', Same F F' ∧ SOk K F0 H0 F' H σ (G.set i (.val (.lst ds))) := by
  obtain ⟨a, us, g1, g2, g3, g4, g5⟩ := s.own e
  refine ⟨upd F a (.lst us), same_new g3, s.st.pub g4 g3 g2, by rw [List.length_set, s.len], fun j c q => ?_, fun j k ds' es' b e1 e2 h1 h2 => ?_⟩
  · rcases get_set q with ⟨rfl, rfl, hl⟩ | ⟨ne, q'⟩
    · exact ⟨some (.ref a), g1, .ref a, rfl, a, us, rfl, upd_same, Reps.mono (same_new g3) _ _ g5⟩
    · obtain ⟨o, h1, h2⟩ := s.sl j c q'
      refine ⟨o, h1, ?_⟩
      cases c with
      | un => trivial
      | val d =>
        obtain ⟨v, k1, k2⟩ := h2
        exact ⟨v, k1, Rep.mono (same_new g3) _ _ k2⟩
      | own ds' =>
        obtain ⟨b, ws, rfl, k1, k2, k3, k4⟩ := h2
        refine ⟨b, ws, rfl, k1, ?_, k3, Reps.mono (same_new g3) _ _ k4⟩
        rw [upd_ne (fun z => ?_)]
        · exact k2
        · subst z
          exact ne (s.ap i j _ _ _ e q' g1 h1)
  · have f : ∀ (m : Nat) (xs : List D), (G.set i (.val (.lst ds)))[m]? = some (.own xs) → G[m]? = some (.own xs) := fun m xs q => by
      rcases get_set q with ⟨_, z, _⟩ | ⟨_, q'⟩
      · cases z
      · exact q'
    exact s.ap j k _ _ b (f _ _ e1) (f _ _ e2) h1 h2
/-- less is known -/
def Weak (G G' : Ctx) : Prop := G.length = G'.length ∧ ∀ (i : Nat) (s : Sl), G'[i]? = some s → s = Sl.un ∨ G[i]? = some s
theorem Weak.nil : Weak [] [] := ⟨rfl, fun _ _ h => .inr h⟩
theorem Weak.un {s : Sl} {G G' : Ctx} (w : Weak G G') : Weak (s :: G) (.un :: G') := ⟨by rw [List.length_cons, List.length_cons, w.1], fun i c h => by
  cases i with
  | zero => exact .inl (Option.some.inj h).symm
  | succ i => exact w.2 i c h⟩
theorem Weak.eq {s : Sl} {G G' : Ctx} (w : Weak G G') : Weak (s :: G) (s :: G') := ⟨by rw [List.length_cons, List.length_cons, w.1], fun i c h => by
  cases i with
  | zero => exact .inr h
  | succ i => exact w.2 i c h⟩
theorem Weak.refl (G : Ctx) : Weak G G := ⟨rfl, fun _ _ h => .inr h⟩
theorem Weak.trans {G G1 G2 : Ctx} (a : Weak G G1) (b : Weak G1 G2) : Weak G G2 := ⟨a.1.trans b.1, fun i s h => (b.2 i s h).elim .inl fun h => a.2 i s h⟩
theorem SOk.weak {G' : Ctx} (s : SOk K F0 H0 F H σ G) (w : Weak G G') : SOk K F0 H0 F H σ G' where
  st := s.st
  len := s.len.trans w.1
  sl := fun i c e => by
    rcases w.2 i c e with rfl | e'
    · have hi : i < σ.length := by
        rw [s.len, w.1]
        exact (List.getElem?_eq_some_iff.mp e).1
      exact ⟨σ[i], List.getElem?_eq_getElem hi, trivial⟩
    · exact s.sl i c e'
  ap := fun i j ds es a e1 e2 h1 h2 => by
    rcases w.2 i _ e1 with q | e1'
    · cases q
    · rcases w.2 j _ e2 with q | e2'
      · cases q
      · exact s.ap i j ds es a e1' e2' h1 h2
end
end Cw
set_option maxHeartbeats 4000000
namespace Cw
open PySem PySem.Spec PyProof.Rows L2
section
variable (K : Fg)
/-- an expression is worth d; its value may be held (EvD), may be looked at (EvH); a new list of one's own (EvN) -/
def EvD (te : TE) (G : Ctx) (d : D) : Prop := ∀ F0 H0 F H σ, SOk K F0 H0 F H σ G → ∀ Q : VK, (∀ v F' H', Step F H F' H' → Rep K F' d v → Q v H') → te σ H Q
def EvH (te : TE) (G : Ctx) (d : D) : Prop := ∀ F0 H0 F H σ, SOk K F0 H0 F H σ G → ∀ Q : VK, (∀ v F' H', Step F H F' H' → Rep K H' d v → Q v H') → te σ H Q
def EvN (te : TE) (G : Ctx) (ds : List D) : Prop := ∀ F0 H0 F H σ, SOk K F0 H0 F H σ G → ∀ Q : VK, (∀ p vs F' H', Step F H F' H' → H p = none → F' p = none → H' p = some (.lst vs) → Reps K F' ds vs → Q (.ref p) H') → te σ H Q
def EvB (tt : TT) (G : Ctx) (b : Bool) : Prop := ∀ F0 H0 F H σ, SOk K F0 H0 F H σ G → ∀ Q : Bool → Hp → Prop, (∀ F' H', Step F H F' H' → Q b H') → tt σ H Q
def EvA (ta : TA) (G : Ctx) (ds : List D) : Prop := ∀ F0 H0 F H σ, SOk K F0 H0 F H σ G → ∀ Q : List V → Hp → Prop, (∀ vs F' H', Step F H F' H' → Reps K F' ds vs → Q vs H') → ta σ H Q
def EvO (to : TO) (G : Ctx) (o : Option Int) : Prop := ∀ F0 H0 F H σ, SOk K F0 H0 F H σ G → ∀ Q : Option Int → Hp → Prop, (∀ F' H', Step F H F' H' → Q o H') → to σ H Q
/-- what an iterator yields -/
def Walks (J : It) (F : Hp) (ds : List D) : Prop := ∀ F1 H1, Same F F1 → Same F1 H1 →
  (∀ (i : Nat) (d : D), ds[i]? = some d → J.go i H1 ∧ ∀ x H2, J.yld i H1 x H2 → ∃ F2, Step F1 H1 F2 H2 ∧ Rep K F2 d x) ∧ ∀ i : Nat, ds.length ≤ i → J.stop i H1
def ItD (wi : TI) (G : Ctx) (ds : List D) : Prop := ∀ F0 H0 F H σ, SOk K F0 H0 F H σ G → ∀ R : It → Hp → Prop, (∀ J F' H', Step F H F' H' → Walks K J F' ds → R J H') → wi σ H R
/-- operations on values -/
def Op1 (r : V → Hp → VK → Prop) (a d : D) : Prop := ∀ F H x, Same F H → Rep K F a x → ∀ Q : VK, (∀ v F' H', Step F H F' H' → Rep K F' d v → Q v H') → r x H Q
def Op2 (r : R2) (a b d : D) : Prop := ∀ F H x y, Same F H → Rep K F a x → Rep K F b y → ∀ Q : VK, (∀ v F' H', Step F H F' H' → Rep K F' d v → Q v H') → r x y H Q
def OpA (r : List V → Hp → VK → Prop) (as : List D) (d : D) : Prop := ∀ F H xs, Same F H → Reps K F as xs → ∀ Q : VK, (∀ v F' H', Step F H F' H' → Rep K F' d v → Q v H') → r xs H Q
def OpAN (r : List V → Hp → VK → Prop) (as : List D) (ds : List D) : Prop := ∀ F H xs, Same F H → Reps K F as xs → ∀ Q : VK, (∀ p vs F' H', Step F H F' H' → H p = none → F' p = none → H' p = some (.lst vs) → Reps K F' ds vs → Q (.ref p) H') → r xs H Q
end
/-- data whose values need no heap -/
def Scal (d : D) : Prop := ∀ (K : Fg) (F F' : Hp) (v : V), Rep K F d v → Rep K F' d v
theorem scal_int {i : Int} : Scal (.int i) := fun _ _ _ _ h => h
theorem scal_bl {b : Bool} : Scal (.bl b) := fun _ _ _ _ h => h
theorem scal_non : Scal .non := fun _ _ _ _ h => h
theorem scal_str {x : Str} : Scal (.str x) := fun _ _ _ _ h => h
section
variable {K : Fg} {G : Ctx} {te ta tb tc : TE} {tt tu : TT} {tr : TA} {d e a b c : D} {ds es : List D}
theorem EvD.h (h : EvD K te G d) : EvH K te G d := fun F0 H0 F H σ s Q q => h F0 H0 F H σ s Q fun v F' H' t r => q v F' H' t (Rep.mono t.fh _ _ r)
theorem EvD.cast (h : EvD K te G d) (q : d = e) : EvD K te G e := q ▸ h
theorem EvN.cast (h : EvN K te G ds) (q : ds = es) : EvN K te G es := q ▸ h
theorem EvB.cast {b c : Bool} (h : EvB K tt G b) (q : b = c) : EvB K tt G c := q ▸ h
/-- a new list may be held -/
theorem ev_pub (h : EvN K te G ds) : EvD K te G (.lst ds) := fun F0 H0 F H σ s Q q => h F0 H0 F H σ s Q fun p vs F' H' t hp hf hv r =>
  q (.ref p) (upd F' p (.lst vs)) H' (t.pub hp hf hv) ⟨p, vs, rfl, upd_same, Reps.mono (same_new hf) _ _ r⟩
theorem eh_pub (h : EvN K te G ds) : EvH K te G (.lst ds) := (ev_pub h).h
theorem ev_var {i : Nat} (h : G[i]? = some (.val d)) : EvD K (tVar i) G d := fun F0 H0 F H σ s Q q => by
  obtain ⟨v, e, r⟩ := s.val h
  exact ⟨v, e, q v F H (Step.refl s.fh) r⟩
theorem eh_own {i : Nat} (h : G[i]? = some (.own ds)) : EvH K (tVar i) G (.lst ds) := fun F0 H0 F H σ s Q q => by
  obtain ⟨a, vs, e, h1, h2, h3, h4⟩ := s.own h
  exact ⟨.ref a, e, q _ F H (Step.refl s.fh) ⟨a, vs, rfl, h1, Reps.mono s.fh _ _ h4⟩⟩
theorem ev_int {i : Int} : EvD K (tC (.int i)) G (.int i) := fun F0 H0 F H σ s Q q => q _ F H (Step.refl s.fh) rfl
theorem ev_bl {b : Bool} : EvD K (tC (.bl b)) G (.bl b) := fun F0 H0 F H σ s Q q => q _ F H (Step.refl s.fh) rfl
theorem ev_non : EvD K (tC .non) G .non := fun F0 H0 F H σ s Q q => q _ F H (Step.refl s.fh) rfl
theorem ev_str {x : Str} : EvD K (tC (.str x)) G (.str x) := fun F0 H0 F H σ s Q q => q _ F H (Step.refl s.fh) rfl
/-- a thing of the module's top -/
theorem ev_glo {v : V} (h : ∀ F, Rep K F d v) : EvD K (tC v) G d := fun F0 H0 F H σ s Q q => q _ F H (Step.refl s.fh) (h F)
theorem ev_op {r : R2} (ha : EvD K ta G a) (hb : EvD K tb G b) (hr : Op2 K r a b d) : EvD K (tOp r ta tb) G d := fun F0 H0 F H σ s Q q =>
  ha F0 H0 F H σ s _ fun v F1 H1 t1 r1 => hb F0 H0 F1 H1 σ (s.step t1) _ fun u F2 H2 t2 r2 => hr F2 H2 v u t2.fh (Rep.mono t2.ff _ _ r1) r2 Q fun w F3 H3 t3 r3 => q w F3 H3 ((t1.trans t2).trans t3) r3
/-- .. whose answer needs no heap -/
theorem ev_opS {r : R2} (ha : EvH K ta G a) (hb : EvH K tb G b) (hr : Op2 K r a b d) (hd : Scal d) : EvD K (tOp r ta tb) G d := fun F0 H0 F H σ s Q q =>
  ha F0 H0 F H σ s _ fun v F1 H1 t1 r1 => hb F0 H0 F1 H1 σ (s.step t1) _ fun u F2 H2 t2 r2 => hr H2 H2 v u (Same.refl _) (Rep.mono t2.hh _ _ r1) r2 Q fun w F3 H3 t3 r3 =>
    q w F2 H3 ((t1.trans t2).trans ⟨Same.refl _, t3.hh, t2.fh.trans t3.hh, fun _ n => .inl n⟩) (hd K _ _ _ r3)
theorem ev_un {r : V → Hp → VK → Prop} (ha : EvD K ta G a) (hr : Op1 K r a d) : EvD K (tUn r ta) G d := fun F0 H0 F H σ s Q q =>
  ha F0 H0 F H σ s _ fun v F1 H1 t1 r1 => hr F1 H1 v t1.fh r1 Q fun w F3 H3 t3 r3 => q w F3 H3 (t1.trans t3) r3
theorem ea_nil : EvA K tNil G [] := fun F0 H0 F H σ s Q q => q [] F H (Step.refl s.fh) rfl
theorem ea_cons (h : EvD K te G d) (hr : EvA K tr G ds) : EvA K (tCons te tr) G (d :: ds) := fun F0 H0 F H σ s Q q =>
  h F0 H0 F H σ s _ fun v F1 H1 t1 r1 => hr F0 H0 F1 H1 σ (s.step t1) _ fun vs F2 H2 t2 r2 => q (v :: vs) F2 H2 (t1.trans t2) (Reps.cons (Rep.mono t2.ff _ _ r1) r2)
theorem ev_tup (h : EvA K tr G ds) (hl : ds.length ≤ sizeLine) : EvD K (tTup tr) G (.tup ds) := fun F0 H0 F H σ s Q q =>
  h F0 H0 F H σ s _ fun vs F1 H1 t1 r1 => ⟨by rw [Reps.len r1]; exact hl, fun p hp => q _ (upd F1 p (.tup vs)) _ (t1.trans (Step.newF t1.fh hp)) ⟨p, vs, rfl, .inl (.inl upd_same), Reps.mono (same_new (t1.fh.free hp)) _ _ r1⟩⟩
theorem en_lst (h : EvA K tr G ds) (hl : ds.length ≤ sizeLine) : EvN K (tLst tr) G ds := fun F0 H0 F H σ s Q q =>
  h F0 H0 F H σ s _ fun vs F1 H1 t1 r1 => ⟨by rw [Reps.len r1]; exact hl, fun p hp => q p vs F1 _ (t1.trans (Step.newP t1.fh hp)) (t1.hh.free hp) (t1.fh.free hp) upd_same r1⟩
theorem ev_cb {r : List V → Hp → VK → Prop} (h : EvA K tr G ds) (hr : OpA K r ds d) : EvD K (tCB r tr) G d := fun F0 H0 F H σ s Q q =>
  h F0 H0 F H σ s _ fun vs F1 H1 t1 r1 => hr F1 H1 vs t1.fh r1 Q fun w F3 H3 t3 r3 => q w F3 H3 (t1.trans t3) r3
/-- .. of one argument that is looked at -/
theorem ev_cbS {r : List V → Hp → VK → Prop} (h : EvH K te G a) (hr : OpA K r [a] d) (hd : Scal d) : EvD K (tCB r (tCons te tNil)) G d := fun F0 H0 F H σ s Q q =>
  h F0 H0 F H σ s _ fun v F1 H1 t1 r1 => hr H1 H1 [v] (Same.refl _) (Reps.one r1) Q fun w F3 H3 t3 r3 => q w F1 H3 (t1.trans ⟨Same.refl _, t3.hh, t1.fh.trans t3.hh, fun _ n => .inl n⟩) (hd K _ _ _ r3)
theorem en_cb {r : List V → Hp → VK → Prop} (h : EvA K tr G ds) (hr : OpAN K r ds es) : EvN K (tCB r tr) G es := fun F0 H0 F H σ s Q q =>
  h F0 H0 F H σ s _ fun vs F1 H1 t1 r1 => hr F1 H1 vs t1.fh r1 Q fun p us F3 H3 t3 h1 h2 h3 r3 => q p us F3 H3 (t1.trans t3) (t1.hh.free h1) h2 h3 r3

/-! ### tests -/
theorem eb_val {b : Bool} (h : EvD K te G (.bl b)) : EvB K (tB te) G b := fun F0 H0 F H σ s Q q => h F0 H0 F H σ s _ fun v F1 H1 t1 r1 => ⟨b, r1, q F1 H1 t1⟩
theorem eb_test {b : Bool} (h : EvD K te G (.bl b)) : EvB K (tTest te) G b := fun F0 H0 F H σ s Q q => h F0 H0 F H σ s _ fun v F1 H1 t1 r1 => ⟨b, r1, q F1 H1 t1⟩
theorem eb_and {x y : Bool} (h : EvB K tt G x) (k : x = true → EvB K tu G y) : EvB K (tAnd tt tu) G (x && y) := fun F0 H0 F H σ s Q q => h F0 H0 F H σ s _ fun F1 H1 t1 => by
  cases x with
  | true => exact iteT (k rfl F0 H0 F1 H1 σ (s.step t1) _ fun F2 H2 t2 => q F2 H2 (t1.trans t2))
  | false => exact iteF (q F1 H1 t1)
theorem eb_or {x y : Bool} (h : EvB K tt G x) (k : x = false → EvB K tu G y) : EvB K (tOr tt tu) G (x || y) := fun F0 H0 F H σ s Q q => h F0 H0 F H σ s _ fun F1 H1 t1 => by
  cases x with
  | true => exact iteT (q F1 H1 t1)
  | false => exact iteF (k rfl F0 H0 F1 H1 σ (s.step t1) _ fun F2 H2 t2 => q F2 H2 (t1.trans t2))
theorem eb_not {x : Bool} (h : EvB K tt G x) : EvB K (tNot tt) G (!x) := fun F0 H0 F H σ s Q q => h F0 H0 F H σ s _ fun F1 H1 t1 => q F1 H1 t1
theorem eb_yes : EvB K tYes G true := fun F0 H0 F H σ s Q q => q F H (Step.refl s.fh)
theorem ev_andV {x y : Bool} (h : EvD K ta G (.bl x)) (k : x = true → EvD K tb G (.bl y)) : EvD K (tAndV ta tb) G (.bl (x && y)) := fun F0 H0 F H σ s Q q => h F0 H0 F H σ s _ fun v F1 H1 t1 r1 => by
  cases x with
  | true => exact ⟨true, r1, iteT (k rfl F0 H0 F1 H1 σ (s.step t1) _ fun u F2 H2 t2 r2 => q u F2 H2 (t1.trans t2) r2)⟩
  | false => exact ⟨false, r1, iteF (q _ F1 H1 t1 rfl)⟩
theorem ev_orV {x y : Bool} (h : EvD K ta G (.bl x)) (k : x = false → EvD K tb G (.bl y)) : EvD K (tOrV ta tb) G (.bl (x || y)) := fun F0 H0 F H σ s Q q => h F0 H0 F H σ s _ fun v F1 H1 t1 r1 => by
  cases x with
  | true => exact ⟨true, r1, iteT (q _ F1 H1 t1 rfl)⟩
  | false => exact ⟨false, r1, iteF (k rfl F0 H0 F1 H1 σ (s.step t1) _ fun u F2 H2 t2 r2 => q u F2 H2 (t1.trans t2) r2)⟩
theorem ev_notV {x : Bool} (h : EvD K ta G (.bl x)) : EvD K (tNotV ta) G (.bl (!x)) := fun F0 H0 F H σ s Q q => h F0 H0 F H σ s _ fun v F1 H1 t1 r1 => ⟨x, r1, q _ F1 H1 t1 rfl⟩
theorem ev_if {x : Bool} (h : EvB K tt G x) (k : x = true → EvD K ta G d) (l : x = false → EvD K tb G d) : EvD K (tIf tt ta tb) G d := fun F0 H0 F H σ s Q q => h F0 H0 F H σ s _ fun F1 H1 t1 => by
  cases x with
  | true => exact iteT (k rfl F0 H0 F1 H1 σ (s.step t1) _ fun u F2 H2 t2 r2 => q u F2 H2 (t1.trans t2) r2)
  | false => exact iteF (l rfl F0 H0 F1 H1 σ (s.step t1) _ fun u F2 H2 t2 r2 => q u F2 H2 (t1.trans t2) r2)
theorem en_if {x : Bool} (h : EvB K tt G x) (k : x = true → EvN K ta G ds) (l : x = false → EvN K tb G ds) : EvN K (tIf tt ta tb) G ds := fun F0 H0 F H σ s Q q => h F0 H0 F H σ s _ fun F1 H1 t1 => by
  cases x with
  | true => exact iteT (k rfl F0 H0 F1 H1 σ (s.step t1) _ fun p us F2 H2 t2 h1 h2 h3 r2 => q p us F2 H2 (t1.trans t2) (t1.hh.free h1) h2 h3 r2)
  | false => exact iteF (l rfl F0 H0 F1 H1 σ (s.step t1) _ fun p us F2 H2 t2 h1 h2 h3 r2 => q p us F2 H2 (t1.trans t2) (t1.hh.free h1) h2 h3 r2)
theorem eo_no : EvO K tNoPart G none := fun F0 H0 F H σ s Q q => q F H (Step.refl s.fh)
theorem eo_some {i : Int} (h : EvD K te G (.int i)) : EvO K (tPart te) G (some i) := fun F0 H0 F H σ s Q q => h F0 H0 F H σ s _ fun v F1 H1 t1 r1 => ⟨i, r1, q F1 H1 t1⟩

/-! ### ints -/
theorem op_I0 {g : Int → Int → V} {i j : Int} (h : ∀ F, Rep K F d (g i j)) : Op2 K (rI0 g) (.int i) (.int j) d := fun F H x y s hx hy Q q => by
  cases hx
  cases hy
  exact ⟨i, j, rfl, rfl, q _ F H (Step.refl s) (h F)⟩
theorem op_I {C : Int → Int → Prop} {g : Int → Int → V} {i j : Int} (hc : C i j) (h : ∀ F, Rep K F d (g i j)) : Op2 K (rI C g) (.int i) (.int j) d := fun F H x y s hx hy Q q => by
  cases hx
  cases hy
  exact ⟨i, j, rfl, rfl, hc, q _ F H (Step.refl s) (h F)⟩
theorem ev_add {i j : Int} (ha : EvD K ta G (.int i)) (hb : EvD K tb G (.int j)) : EvD K (tOp (rI0 fun i j => .int (i + j)) ta tb) G (.int (i + j)) := ev_op ha hb (op_I0 fun _ => rfl)
theorem ev_sub {i j : Int} (ha : EvD K ta G (.int i)) (hb : EvD K tb G (.int j)) : EvD K (tOp (rI0 fun i j => .int (i - j)) ta tb) G (.int (i - j)) := ev_op ha hb (op_I0 fun _ => rfl)
theorem ev_lt {i j : Int} (ha : EvD K ta G (.int i)) (hb : EvD K tb G (.int j)) : EvD K (tOp (rI0 fun i j => .bl (decide (i < j))) ta tb) G (.bl (decide (i < j))) := ev_op ha hb (op_I0 fun _ => rfl)
theorem ev_le {i j : Int} (ha : EvD K ta G (.int i)) (hb : EvD K tb G (.int j)) : EvD K (tOp (rI0 fun i j => .bl (decide (i ≤ j))) ta tb) G (.bl (decide (i ≤ j))) := ev_op ha hb (op_I0 fun _ => rfl)
theorem ev_gt {i j : Int} (ha : EvD K ta G (.int i)) (hb : EvD K tb G (.int j)) : EvD K (tOp (rI0 fun i j => .bl (decide (j < i))) ta tb) G (.bl (decide (j < i))) := ev_op ha hb (op_I0 fun _ => rfl)
theorem ev_ge {i j : Int} (ha : EvD K ta G (.int i)) (hb : EvD K tb G (.int j)) : EvD K (tOp (rI0 fun i j => .bl (decide (j ≤ i))) ta tb) G (.bl (decide (j ≤ i))) := ev_op ha hb (op_I0 fun _ => rfl)
theorem ev_mulS {i j : Int} (hc : CMul i j) (ha : EvD K ta G (.int i)) (hb : EvD K tb G (.int j)) : EvD K (tOp (rI CMul fun i j => .int (i * j)) ta tb) G (.int (i * j)) := ev_op ha hb (op_I hc fun _ => rfl)
theorem ev_mod {i j : Int} (hc : 0 < j) (ha : EvD K ta G (.int i)) (hb : EvD K tb G (.int j)) : EvD K (tOp (rI (fun _ j => 0 < j) fun i j => .int (i % j)) ta tb) G (.int (i % j)) := ev_op ha hb (op_I hc fun _ => rfl)
theorem ev_fdiv {i j : Int} (hc : CDiv i j) (ha : EvD K ta G (.int i)) (hb : EvD K tb G (.int j)) : EvD K (tOp (rI CDiv fun i j => .int (i / j)) ta tb) G (.int (i / j)) := ev_op ha hb (op_I hc fun _ => rfl)
theorem ev_neg {i : Int} (ha : EvD K ta G (.int i)) : EvD K (tUn (rU fun i => .int (-i)) ta) G (.int (-i)) := ev_un ha fun F H x s hx Q q => by
  cases hx
  exact ⟨i, rfl, q _ F H (Step.refl s) rfl⟩
/-- == of ints, bools, None, texts -/
def sc : D → Option V
  | .non => some .non
  | .bl b => some (.bl b)
  | .int i => some (.int i)
  | .str x => some (.str x)
  | _ => none
theorem sc_rep {F : Hp} {v u : V} (h : sc d = some v) (r : Rep K F d u) : u = v := by
  cases d <;> first
    | (cases h; exact r)
    | cases h
theorem ev_eqI {i j : Int} (ha : EvD K ta G (.int i)) (hb : EvD K tb G (.int j)) : EvD K (tOp rEq ta tb) G (.bl (decide (i = j))) := ev_op ha hb fun F H x y s hx hy Q q => by
  cases hx
  cases hy
  exact ⟨rfl, q _ F H (Step.refl s) (by show V.bl _ = V.bl _; congr 1; exact decide_eq_decide.mpr ⟨fun h => V.int.inj h, fun h => by rw [h]⟩)⟩
theorem ev_neI {i j : Int} (ha : EvD K ta G (.int i)) (hb : EvD K tb G (.int j)) : EvD K (tOp rNe ta tb) G (.bl (!decide (i = j))) := ev_op ha hb fun F H x y s hx hy Q q => by
  cases hx
  cases hy
  exact ⟨rfl, q _ F H (Step.refl s) (by show V.bl _ = V.bl _; congr 2; exact decide_eq_decide.mpr ⟨fun h => V.int.inj h, fun h => by rw [h]⟩)⟩

/-! ### lists -/
theorem ev_ixL {xs : List D} {j : Int} (h : atI xs j = some d) (ha : EvD K ta G (.lst xs)) (hb : EvD K tb G (.int j)) : EvD K (tOp (rIxL K) ta tb) G d := ev_op ha hb fun F H x y s hx hy Q q => by
  obtain ⟨p, vs, rfl, h1, h2⟩ := hx
  cases hy
  obtain ⟨k, hk, hd⟩ : ∃ k, ixN xs.length j = some k ∧ xs[k]? = some d := by
    unfold atI at h
    cases z : ixN xs.length j with
    | none => rw [z] at h; cases h
    | some k => rw [z] at h; exact ⟨k, rfl, h⟩
  obtain ⟨v, hv, r⟩ := h2.get hd
  refine ⟨p, vs, j, v, rfl, rfl, .inl (.inl (s _ _ h1)), ?_, q v F H (Step.refl s) r⟩
  unfold atI
  rw [h2.len, hk]
  exact hv
theorem ev_ixT {xs : List D} {j : Int} (h : atI xs j = some d) (ha : EvD K ta G (.tup xs)) (hb : EvD K tb G (.int j)) : EvD K (tOp (rIxT K) ta tb) G d := ev_op ha hb fun F H x y s hx hy Q q => by
  obtain ⟨p, vs, rfl, h1, h2⟩ := hx
  cases hy
  obtain ⟨k, hk, hd⟩ : ∃ k, ixN xs.length j = some k ∧ xs[k]? = some d := by
    unfold atI at h
    cases z : ixN xs.length j with
    | none => rw [z] at h; cases h
    | some k => rw [z] at h; exact ⟨k, rfl, h⟩
  obtain ⟨v, hv, r⟩ := h2.get hd
  refine ⟨p, vs, j, v, rfl, rfl, sqT_mono s h1, ?_, q v F H (Step.refl s) r⟩
  unfold atI
  rw [h2.len, hk]
  exact hv
/-- an item of a list of one's own -/
theorem ev_ixO {i : Nat} {xs : List D} {j : Int} (hi : G[i]? = some (.own xs)) (h : atI xs j = some d) (hb : EvD K tb G (.int j)) : EvD K (tOp (rIxL K) (tVar i) tb) G d := fun F0 H0 F H σ s Q q => by
  obtain ⟨p, vs, e, h1, h2, h3, h4⟩ := s.own hi
  refine ⟨.ref p, e, hb F0 H0 F H σ s _ fun y F1 H1 t1 r1 => ?_⟩
  cases r1
  obtain ⟨k, hk, hd⟩ : ∃ k, ixN xs.length j = some k ∧ xs[k]? = some d := by
    unfold atI at h
    cases z : ixN xs.length j with
    | none => rw [z] at h; cases h
    | some k => rw [z] at h; exact ⟨k, rfl, h⟩
  obtain ⟨v, hv, r⟩ := h4.get hd
  refine ⟨p, vs, j, v, rfl, rfl, .inl (.inl (t1.hh _ _ h1)), ?_, q v F1 H1 t1 (Rep.mono t1.ff _ _ r)⟩
  unfold atI
  rw [h4.len, hk]
  exact hv
theorem en_op {r : R2} {xs : List D} (ha : EvD K ta G a) (hb : EvD K tb G b)
    (hr : ∀ F H x y, Same F H → Rep K F a x → Rep K F b y → ∀ Q : VK, (∀ p vs, H p = none → Reps K F xs vs → Q (.ref p) (upd H p (.lst vs))) → r x y H Q) : EvN K (tOp r ta tb) G xs := fun F0 H0 F H σ s Q q =>
  ha F0 H0 F H σ s _ fun v F1 H1 t1 r1 => hb F0 H0 F1 H1 σ (s.step t1) _ fun u F2 H2 t2 r2 => hr F2 H2 v u t2.fh (Rep.mono t2.ff _ _ r1) r2 Q fun p vs hp r3 =>
    q p vs F2 _ ((t1.trans t2).trans (Step.newP t2.fh hp)) ((t1.trans t2).hh.free hp) (t2.fh.free hp) upd_same r3
theorem en_cat {xs ys : List D} (hl : xs.length + ys.length ≤ sizeLine) (ha : EvD K ta G (.lst xs)) (hb : EvD K tb G (.lst ys)) : EvN K (tOp rCat ta tb) G (xs ++ ys) := en_op ha hb fun F H x y s hx hy Q q => by
  obtain ⟨p, vs, rfl, h1, h2⟩ := hx
  obtain ⟨p', us, rfl, k1, k2⟩ := hy
  exact ⟨p, p', vs, us, rfl, rfl, s _ _ h1, s _ _ k1, by rw [h2.len, k2.len]; exact hl, fun z hz => q z _ hz (h2.app k2)⟩
theorem Reps.rep {F : Hp} {v : V} (h : Rep K F d v) : ∀ n : Nat, Reps K F (List.replicate n d) (List.replicate n v)
  | 0 => rfl
  | n + 1 => Reps.cons h (Reps.rep h n)
/-- [x] * n -/
theorem en_rep1 {n : Int} (hn : n ≤ sizeLine ∧ -(2 ^ 63) ≤ n) (ha : EvD K ta G (.lst [a])) (hb : EvD K tb G (.int n)) : EvN K (tOp rRep ta tb) G (List.replicate n.toNat a) := en_op ha hb fun F H x y s hx hy Q q => by
  obtain ⟨p, vs, rfl, h1, h2⟩ := hx
  cases hy
  obtain ⟨v, r, rfl, h3, h4⟩ := h2
  cases h4
  have z : (sizeLine : Int) < 2 ^ 63 := by decide
  refine ⟨p, n, [v], rfl, rfl, s _ _ h1, hn.2, by omega, by simp; omega, fun z hz => ?_⟩
  have e : (List.flatten (List.replicate n.toNat [v])) = List.replicate n.toNat v := by
    induction n.toNat with
    | zero => rfl
    | succ m ih => rw [List.replicate_succ, List.flatten_cons, ih]; rfl
  first
    | (rw [e]; exact q z _ hz (Reps.rep h3 _))
    | (have := q z _ hz (Reps.rep h3 n.toNat); simpa using this)
theorem oa_len {xs : List D} : OpA K (fun xs H Q => ∃ p ys, xs = [V.ref p] ∧ (SqL K H p ys ∨ SqT K H p ys) ∧ Q (.int ys.length) H) [.lst xs] (.int xs.length) := fun F H vs s hx Q q => by
  obtain ⟨v, r, rfl, h1, h2⟩ := hx
  cases h2
  obtain ⟨p, us, rfl, h3, h4⟩ := h1
  exact ⟨p, us, rfl, .inl (.inl (.inl (s _ _ h3))), q _ F H (Step.refl s) (by show V.int _ = V.int _; rw [h4.len])⟩
theorem oa_lenT {xs : List D} : OpA K (fun xs H Q => ∃ p ys, xs = [V.ref p] ∧ (SqL K H p ys ∨ SqT K H p ys) ∧ Q (.int ys.length) H) [.tup xs] (.int xs.length) := fun F H vs s hx Q q => by
  obtain ⟨v, r, rfl, h1, h2⟩ := hx
  cases h2
  obtain ⟨p, us, rfl, h3, h4⟩ := h1
  exact ⟨p, us, rfl, .inr (sqT_mono s h3), q _ F H (Step.refl s) (by show V.int _ = V.int _; rw [h4.len])⟩
theorem ev_len {xs : List D} (h : EvH K ta G (.lst xs)) : EvD K (tCB (fun xs H Q => ∃ p ys, xs = [V.ref p] ∧ (SqL K H p ys ∨ SqT K H p ys) ∧ Q (.int ys.length) H) (tCons ta tNil)) G (.int xs.length) := ev_cbS h oa_len scal_int
theorem ev_lenT {xs : List D} (h : EvH K ta G (.tup xs)) : EvD K (tCB (fun xs H Q => ∃ p ys, xs = [V.ref p] ∧ (SqL K H p ys ∨ SqT K H p ys) ∧ Q (.int ys.length) H) (tCons ta tNil)) G (.int xs.length) := ev_cbS h oa_lenT scal_int
theorem en_listof {xs : List D} (h : EvD K ta G (.lst xs)) : EvN K (tCB (fun xs H Q => ∃ p ys, xs = [V.ref p] ∧ (SqL K H p ys ∨ SqT K H p ys) ∧ ∀ l, H l = none → Q (.ref l) (upd H l (.lst ys))) (tCons ta tNil)) G xs := en_cb (ea_cons h ea_nil) fun F H vs s hx Q q => by
  obtain ⟨v, r, rfl, h1, h2⟩ := hx
  cases h2
  obtain ⟨p, us, rfl, h3, h4⟩ := h1
  exact ⟨p, us, rfl, .inl (.inl (.inl (s _ _ h3))), fun l hl => q l us F _ (Step.newP s hl) hl (s.free hl) upd_same h4⟩
theorem en_listofT {xs : List D} (h : EvD K ta G (.tup xs)) : EvN K (tCB (fun xs H Q => ∃ p ys, xs = [V.ref p] ∧ (SqL K H p ys ∨ SqT K H p ys) ∧ ∀ l, H l = none → Q (.ref l) (upd H l (.lst ys))) (tCons ta tNil)) G xs := en_cb (ea_cons h ea_nil) fun F H vs s hx Q q => by
  obtain ⟨v, r, rfl, h1, h2⟩ := hx
  cases h2
  obtain ⟨p, us, rfl, h3, h4⟩ := h1
  exact ⟨p, us, rfl, .inr (sqT_mono s h3), fun l hl => q l us F _ (Step.newP s hl) hl (s.free hl) upd_same h4⟩
theorem en_rev {xs : List D} (h : EvD K ta G (.lst xs)) : EvN K (tRevL K ta) G xs.reverse := fun F0 H0 F H σ s Q q => h F0 H0 F H σ s _ fun v F1 H1 t1 r1 => by
  obtain ⟨p, us, rfl, h3, h4⟩ := r1
  exact ⟨p, us, rfl, .inl (.inl (t1.fh _ _ h3)), fun l hl => q l _ F1 _ (t1.trans (Step.newP t1.fh hl)) (t1.hh.free hl) (t1.fh.free hl) upd_same h4.rev⟩
def cutD (xs : List D) (lo hi : Option Int) : List D := (xs.drop (HT.sIx xs.length 0 lo)).take (HT.sIx xs.length xs.length hi - HT.sIx xs.length 0 lo)
theorem en_slice {tl th : TO} {xs : List D} {lo hi : Option Int} (h : EvD K ta G (.lst xs)) (h1 : EvO K tl G lo) (h2 : EvO K th G hi) : EvN K (tSl (rSlL K) ta tl th) G (cutD xs lo hi) := fun F0 H0 F H σ s Q q =>
  h F0 H0 F H σ s _ fun v F1 H1 t1 r1 => h1 F0 H0 F1 H1 σ (s.step t1) _ fun F2 H2 t2 => h2 F0 H0 F2 H2 σ ((s.step t1).step t2) _ fun F3 H3 t3 => by
    obtain ⟨p, us, rfl, h3, h4⟩ := r1
    have t := t2.trans t3
    refine ⟨p, us, rfl, .inl (.inl (t.hh _ _ (t1.fh _ _ h3))), fun l hl => q l _ F3 _ ((t1.trans t).trans (Step.newP t3.fh hl)) ((t1.trans t).hh.free hl) (t3.fh.free hl) upd_same ?_⟩
    have h5 := Reps.mono t.ff _ _ h4
    unfold cutV cutD
    rw [h5.len]
    exact (h5.drop _).take _
theorem ev_tupOf {xs : List D} (h : EvD K ta G (.lst xs)) : EvD K (tCB (fun xs H Q => ∃ p ys, xs = [V.ref p] ∧ ((SqL K H p ys ∧ ∀ l, H l = none → Q (.ref l) (upd H l (.tup ys))) ∨ (SqT K H p ys ∧ Q (.ref p) H))) (tCons ta tNil)) G (.tup xs) := ev_cb (ea_cons h ea_nil) fun F H vs s hx Q q => by
  obtain ⟨v, r, rfl, h1, h2⟩ := hx
  cases h2
  obtain ⟨p, us, rfl, h3, h4⟩ := h1
  exact ⟨p, us, rfl, .inl ⟨.inl (.inl (s _ _ h3)), fun l hl => q (.ref l) (upd F l (.tup us)) _ (Step.newF s hl) ⟨l, us, rfl, .inl (.inl upd_same), Reps.mono (same_new (s.free hl)) _ _ h4⟩⟩⟩
theorem oa_max {i j : Int} : OpA K (fun xs H Q => ∃ i j, xs = [V.int i, V.int j] ∧ Q (.int (if j > i then j else i)) H) [.int i, .int j] (.int (max i j)) := fun F H vs s hx Q q => by
  obtain ⟨v, r, rfl, h1, u, r', rfl, h2, h3⟩ := hx
  cases h1
  cases h2
  cases h3
  exact ⟨i, j, rfl, q _ F H (Step.refl s) (by show V.int _ = V.int _; congr 1; omega)⟩
theorem oa_min {i j : Int} : OpA K (fun xs H Q => ∃ i j, xs = [V.int i, V.int j] ∧ Q (.int (if j < i then j else i)) H) [.int i, .int j] (.int (min i j)) := fun F H vs s hx Q q => by
  obtain ⟨v, r, rfl, h1, u, r', rfl, h2, h3⟩ := hx
  cases h1
  cases h2
  cases h3
  exact ⟨i, j, rfl, q _ F H (Step.refl s) (by show V.int _ = V.int _; congr 1; omega)⟩
theorem oa_int {i : Int} : OpA K (fun xs H Q => (∃ i, xs = [V.int i] ∧ Q (.int i) H) ∨ ∃ k, xs = [V.bl k] ∧ Q (.int (if k then 1 else 0)) H) [.int i] (.int i) := fun F H vs s hx Q q => by
  obtain ⟨v, r, rfl, h1, h3⟩ := hx
  cases h1
  cases h3
  exact .inl ⟨i, rfl, q _ F H (Step.refl s) rfl⟩
theorem oa_intB {k : Bool} : OpA K (fun xs H Q => (∃ i, xs = [V.int i] ∧ Q (.int i) H) ∨ ∃ k, xs = [V.bl k] ∧ Q (.int (if k then 1 else 0)) H) [.bl k] (.int (if k then 1 else 0)) := fun F H vs s hx Q q => by
  obtain ⟨v, r, rfl, h1, h3⟩ := hx
  cases h1
  cases h3
  exact .inr ⟨k, rfl, q _ F H (Step.refl s) rfl⟩
theorem Reps.ints {F : Hp} : ∀ {ns : List Int} {vs : List V}, Reps K F (ns.map D.int) vs → vs = ns.map V.int
  | [], _, h => h
  | n :: ns, _, h => by
    obtain ⟨v, r, rfl, h1, h2⟩ := h
    cases h1
    rw [Reps.ints h2]
    rfl
theorem Reps.ofInts {F : Hp} : ∀ {ns : List Int}, Reps K F (ns.map D.int) (ns.map V.int)
  | [] => rfl
  | n :: ns => ⟨.int n, _, rfl, rfl, Reps.ofInts⟩
theorem oa_sum {ns : List Int} : OpA K (rSum K) [.lst (ns.map D.int)] (.int ns.sum) := fun F H vs s hx Q q => by
  obtain ⟨v, r, rfl, h1, h2⟩ := hx
  cases h2
  obtain ⟨p, us, rfl, h3, h4⟩ := h1
  have e := h4.ints
  subst e
  exact ⟨p, ns, rfl, .inl (.inl (s _ _ h3)), q _ F H (Step.refl s) rfl⟩
end
end Cw
set_option maxHeartbeats 4000000
namespace Cw
open PySem PySem.Spec PyProof.Rows L2
/-! ### targets -/
section
variable (K : Fg)
def TgD (g : TG) (d : D) (G G' : Ctx) (is : List Nat) : Prop := ∀ F0 H0 F H σ x, SOk K F0 H0 F H σ G → Rep K F d x → ∀ Q : L2.St → Hp → Prop, (∀ σ', SOk K F0 H0 F H σ' G' → σ'.length = σ.length → (∀ i : Nat, i ∉ is → σ'[i]? = σ[i]?) → Q σ' H) → g x σ H Q
def TgDs (g : TGs) (ds : List D) (G G' : Ctx) (is : List Nat) : Prop := ∀ F0 H0 F H σ xs, SOk K F0 H0 F H σ G → Reps K F ds xs → ∀ Q : L2.St → Hp → Prop, (∀ σ', SOk K F0 H0 F H σ' G' → σ'.length = σ.length → (∀ i : Nat, i ∉ is → σ'[i]? = σ[i]?) → Q σ' H) → g xs σ H Q
/-- how a statement ends -/
inductive Out where
  | nx (G : Ctx) | rt (d : D) | bk (G : Ctx) | ct (G : Ctx) | lp (G : Ctx)
def OutOk (F0 H0 F : Hp) (E : Ends) : Out → Prop
  | .nx G => ∀ σ F' H', SOk K F0 H0 F' H' σ G → Same F F' → E.nx σ H'
  | .rt d => ∀ v F' H', Step F0 H0 F' H' → Same F F' → Rep K F' d v → E.rt v H'
  | .bk G => ∀ σ F' H', SOk K F0 H0 F' H' σ G → Same F F' → E.bk σ H'
  | .ct G => ∀ σ F' H', SOk K F0 H0 F' H' σ G → Same F F' → E.ct σ H'
  | .lp G => ∀ σ F' H', SOk K F0 H0 F' H' σ G → Same F F' → E.nx σ H' ∧ E.ct σ H'
def StD (t : TS) (G : Ctx) (o : Out) : Prop := ∀ F0 H0 F H σ (E : Ends), SOk K F0 H0 F H σ G → OutOk K F0 H0 F E o → t E σ H
end
section
variable {K : Fg} {G G' G1 G2 : Ctx} {te ta tb tc : TE} {tt tu : TT} {tr : TA} {t u r : TS} {d e a b c : D} {ds es : List D} {o : Out}
theorem OutOk.mono {F0 H0 F F' : Hp} {E : Ends} (s : Same F F') (h : OutOk K F0 H0 F E o) : OutOk K F0 H0 F' E o := by
  cases o with
  | nx G => exact fun σ F2 H2 a b => h σ F2 H2 a (s.trans b)
  | rt d => exact fun v F2 H2 a b c => h v F2 H2 a (s.trans b) c
  | bk G => exact fun σ F2 H2 a b => h σ F2 H2 a (s.trans b)
  | ct G => exact fun σ F2 H2 a b => h σ F2 H2 a (s.trans b)
  | lp G => exact fun σ F2 H2 a b => h σ F2 H2 a (s.trans b)
theorem tg_name {i : Nat} : TgD K (gName i) d G (G.set i (.val d)) [i] := fun F0 H0 F H σ x s r Q q =>
  q _ (s.set r) (by rw [List.length_set]) fun j hj => List.getElem?_set_ne (fun z => hj (by simp [z]))
theorem tgs_nil : TgDs K gNil [] G G [] := fun F0 H0 F H σ x s r Q q => ⟨r, q σ s rfl fun _ _ => rfl⟩
theorem tgs_cons {g : TG} {gs : TGs} {is js : List Nat} (h : TgD K g d G G1 is) (k : TgDs K gs ds G1 G2 js) : TgDs K (gCons g gs) (d :: ds) G G2 (is ++ js) := fun F0 H0 F H σ x s r Q q => by
  obtain ⟨v, xs, rfl, h1, h2⟩ := r
  exact ⟨v, xs, rfl, h F0 H0 F H σ v s h1 _ fun σ1 s1 l1 p1 => k F0 H0 F H σ1 xs s1 h2 _ fun σ2 s2 l2 p2 => q σ2 s2 (l2.trans l1) fun i hi => (p2 i fun z => hi (List.mem_append_right _ z)).trans (p1 i fun z => hi (List.mem_append_left _ z))⟩
theorem tg_tup {n : Nat} {gs : TGs} {is : List Nat} (k : TgDs K gs ds G G1 is) (hn : ds.length = n) : TgD K (gTup K n gs) (.tup ds) G G1 is := fun F0 H0 F H σ x s r Q q => by
  obtain ⟨p, vs, rfl, h1, h2⟩ := r
  exact ⟨p, vs, rfl, sqT_mono s.fh h1, by rw [h2.len]; exact hn, k F0 H0 F H σ vs s h2 Q q⟩

/-! ### statements -/
theorem StD.lp (h : StD K t G (.nx G')) : StD K t G (.lp G') := fun F0 H0 F H σ E s q => h F0 H0 F H σ E s fun σ' F' H' a b => (q σ' F' H' a b).1
theorem StD.clp (h : StD K t G (.ct G')) : StD K t G (.lp G') := fun F0 H0 F H σ E s q => h F0 H0 F H σ E s fun σ' F' H' a b => (q σ' F' H' a b).2
theorem st_seq (h : StD K t G (.nx G1)) (k : StD K u G1 o) : StD K (tSeq t u) G o := fun F0 H0 F H σ E s q =>
  h F0 H0 F H σ _ s fun σ' F' H' a b => k F0 H0 F' H' σ' E a (q.mono b)
theorem st_seqR (h : StD K t G (.rt d)) : StD K (tSeq t u) G (.rt d) := fun F0 H0 F H σ E s q => h F0 H0 F H σ _ s q
theorem st_seqB (h : StD K t G (.bk G1)) : StD K (tSeq t u) G (.bk G1) := fun F0 H0 F H σ E s q => h F0 H0 F H σ _ s q
theorem st_seqC (h : StD K t G (.ct G1)) : StD K (tSeq t u) G (.ct G1) := fun F0 H0 F H σ E s q => h F0 H0 F H σ _ s q
theorem st_nil : StD K tNext G (.nx G) := fun F0 H0 F H σ E s q => q σ F H s (Same.refl _)
theorem st_nilW (w : Weak G G') : StD K tNext G (.nx G') := fun F0 H0 F H σ E s q => q σ F H (s.weak w) (Same.refl _)
theorem st_weak (w : Weak G G') (h : StD K t G' o) : StD K t G o := fun F0 H0 F H σ E s q => h F0 H0 F H σ E (s.weak w) q
theorem StD.weak (h : StD K t G (.nx G1)) (w : Weak G1 G2) : StD K t G (.nx G2) := fun F0 H0 F H σ E s q => h F0 H0 F H σ E s fun σ' F' H' a b => q σ' F' H' (a.weak w) b
theorem st_brk : StD K tBreak G (.bk G) := fun F0 H0 F H σ E s q => q σ F H s (Same.refl _)
theorem st_cont : StD K tCont G (.ct G) := fun F0 H0 F H σ E s q => q σ F H s (Same.refl _)
theorem st_pub {i : Nat} (hi : G[i]? = some (.own ds)) (h : StD K t (G.set i (.val (.lst ds))) o) : StD K t G o := fun F0 H0 F H σ E s q => by
  obtain ⟨F', sf, s'⟩ := s.pub hi
  exact h F0 H0 F' H σ E s' (q.mono sf)
theorem st_asg {g : TG} {is : List Nat} (h : EvD K te G d) (k : TgD K g d G G1 is) : StD K (tAsg te g) G (.nx G1) := fun F0 H0 F H σ E s q =>
  h F0 H0 F H σ s _ fun v F1 H1 t1 r1 => k F0 H0 F1 H1 σ v (s.step t1) r1 _ fun σ' s' _ _ => q σ' F1 H1 s' t1.ff
theorem st_set {i : Nat} (h : EvD K te G d) : StD K (tAsg te (gName i)) G (.nx (G.set i (.val d))) := st_asg h tg_name
theorem SOk.nown {F0 H0 F H F' H' : Hp} {σ : L2.St} (s : SOk K F0 H0 F H σ G) {p : Addr} (hp : H p = none) (j : Nat) (es : List D) (e : G[j]? = some (.own es)) : σ[j]? ≠ some (some (.ref p)) := by
  intro z
  obtain ⟨a, vs, h1, h2, _⟩ := s.own e
  have : V.ref a = V.ref p := Option.some.inj (Option.some.inj (h1.symm.trans z))
  cases this
  rw [hp] at h2
  cases h2
theorem st_setN {i : Nat} (h : EvN K te G ds) : StD K (tAsg te (gName i)) G (.nx (G.set i (.own ds))) := fun F0 H0 F H σ E s q =>
  h F0 H0 F H σ s _ fun p vs F1 H1 t1 hp hf hv r1 => q _ F1 H1 ((s.step t1).setOwn hv hf (s.st.hh.free hp) r1 fun j es e => s.nown (F' := F) (H' := H) hp j es e) t1.ff
theorem st_ret (h : EvD K te G d) : StD K (tRet te) G (.rt d) := fun F0 H0 F H σ E s q => h F0 H0 F H σ s _ fun v F1 H1 t1 r1 => q v F1 H1 (s.st.trans t1) t1.ff r1
theorem st_retN : StD K tRetN G (.rt .non) := fun F0 H0 F H σ E s q => q .non F H s.st (Same.refl _) rfl
/-- a list of one's own is handed back -/
theorem st_retO {i : Nat} (hi : G[i]? = some (.own ds)) : StD K (tRet (tVar i)) G (.rt (.lst ds)) := st_pub hi (st_ret (ev_var (by
  have := (List.getElem?_eq_some_iff.mp hi).1
  rw [List.getElem?_set_self this])))
theorem st_drop (h : EvD K te G d) : StD K (tDrop te) G (.nx G) := fun F0 H0 F H σ E s q => h F0 H0 F H σ s _ fun v F1 H1 t1 r1 => q σ F1 H1 (s.step t1) t1.ff
theorem st_if {x : Bool} (h : EvB K tt G x) (k : x = true → StD K t G o) (l : x = false → StD K u G o) : StD K (tIfS tt t u) G o := fun F0 H0 F H σ E s q => h F0 H0 F H σ s _ fun F1 H1 t1 => by
  cases x with
  | true => exact iteT (k rfl F0 H0 F1 H1 σ E (s.step t1) (q.mono t1.ff))
  | false => exact iteF (l rfl F0 H0 F1 H1 σ E (s.step t1) (q.mono t1.ff))
theorem st_ifS {x : Bool} (h : EvB K tt G x) (k : x = true → StD K (tSeq t r) G o) (l : x = false → StD K (tSeq u r) G o) : StD K (tSeq (tIfS tt t u) r) G o := fun F0 H0 F H σ E s q => h F0 H0 F H σ s _ fun F1 H1 t1 => by
  cases x with
  | true => exact iteT (k rfl F0 H0 F1 H1 σ E (s.step t1) (q.mono t1.ff))
  | false => exact iteF (l rfl F0 H0 F1 H1 σ E (s.step t1) (q.mono t1.ff))
theorem st_seqN (h : StD K r G o) : StD K (tSeq tNext r) G o := st_seq st_nil h
/-! in place -/
theorem st_app {i : Nat} {xs : List D} (hi : G[i]? = some (.own xs)) (hl : xs.length < sizeLine) (h : EvD K te G d) : StD K (tDrop (tBM K "list" rAppend (tVar i) (tCons te tNil))) G (.nx (G.set i (.own (xs ++ [d])))) := fun F0 H0 F H σ E s q => by
  obtain ⟨p, vs, e, h1, h2, h3, h4⟩ := s.own hi
  refine ⟨.ref p, e, .inl ⟨rfl, _, .inl (.inl h1)⟩, h F0 H0 F H σ s _ fun y F1 H1 t1 r1 => ?_⟩
  have s1 := s.step t1
  exact ⟨p, vs, y, rfl, rfl, t1.hh _ _ h1, by rw [h4.len]; exact hl, q σ F1 _ (s1.mutOwn hi e ((Reps.mono t1.ff _ _ h4).app (Reps.one r1))) t1.ff⟩
theorem Reps.dropLast {F : Hp} {vs : List V} (h : Reps K F ds vs) : Reps K F ds.dropLast vs.dropLast := by
  rw [List.dropLast_eq_take, List.dropLast_eq_take, h.len]
  exact h.take _
theorem st_pop {i : Nat} {xs : List D} (hi : G[i]? = some (.own xs)) (hl : xs ≠ []) : StD K (tDrop (tBM0 K "list" rPop (tVar i))) G (.nx (G.set i (.own xs.dropLast))) := fun F0 H0 F H σ E s q => by
  obtain ⟨p, vs, e, h1, h2, h3, h4⟩ := s.own hi
  have hv : vs.length - 1 < vs.length := by
    rw [h4.len]
    have := List.length_pos_iff.mpr hl
    omega
  exact ⟨.ref p, e, .inl ⟨rfl, _, .inl (.inl h1)⟩, p, vs, vs[vs.length - 1], rfl, rfl, h1, List.getElem?_eq_getElem hv, q σ F _ (s.mutOwn hi e h4.dropLast) (Same.refl _)⟩
theorem st_setI {i k : Nat} {xs : List D} {tj : TE} {j : Int} (hi : G[i]? = some (.own xs)) (hk : ixN xs.length j = some k) (h : EvD K te G d) (hj : EvD K tj G (.int j)) : StD K (tAsg te (gSub (tVar i) tj rSetL)) G (.nx (G.set i (.own (xs.set k d)))) := fun F0 H0 F H σ E s q => by
  obtain ⟨p, vs, e, h1, h2, h3, h4⟩ := s.own hi
  refine h F0 H0 F H σ s _ fun y F1 H1 t1 r1 => ⟨.ref p, e, hj F0 H0 F1 H1 σ (s.step t1) _ fun z F2 H2 t2 r2 => ?_⟩
  cases r2
  have t := t1.trans t2
  exact ⟨p, vs, j, k, rfl, rfl, t.hh _ _ h1, by rw [h4.len]; exact hk, q σ F2 _ ((s.step t).mutOwn hi e ((Reps.mono t.ff _ _ h4).set k (Rep.mono t2.ff _ _ r1))) t.ff⟩

/-! ### several at once: values and new lists -/
def MOk (K : Fg) (Hs F H : Hp) : Sl → V → Prop
  | .un, _ => True
  | .val d, v => Rep K F d v
  | .own ds, v => ∃ p vs, v = .ref p ∧ H p = some (.lst vs) ∧ F p = none ∧ Hs p = none ∧ Reps K F ds vs
theorem MOk.step {Hs F H F' H' : Hp} {s : Sl} {v : V} (h : MOk K Hs F H s v) (t : Step F H F' H') : MOk K Hs F' H' s v := by
  cases s with
  | un => trivial
  | val d => exact Rep.mono t.ff _ _ h
  | own ds =>
    obtain ⟨p, vs, rfl, h1, h2, h3, h4⟩ := h
    obtain ⟨k1, k2⟩ := t.kp h1 h2
    exact ⟨p, vs, rfl, k1, k2, h3, Reps.mono t.ff _ _ h4⟩
theorem MOk.back {Hs Hs' F H : Hp} {s : Sl} {v : V} (h : MOk K Hs' F H s v) (t : Same Hs Hs') : MOk K Hs F H s v := by
  cases s with
  | un => trivial
  | val d => exact h
  | own ds =>
    obtain ⟨p, vs, rfl, h1, h2, h3, h4⟩ := h
    exact ⟨p, vs, rfl, h1, h2, t.free h3, h4⟩
/-- one place: a value or a new list -/
def EvM (K : Fg) (te : TE) (G : Ctx) (s : Sl) : Prop := ∀ F0 H0 F H σ, SOk K F0 H0 F H σ G → ∀ Q : VK, (∀ v F' H', Step F H F' H' → MOk K H F' H' s v → Q v H') → te σ H Q
theorem em_v (h : EvD K te G d) : EvM K te G (.val d) := h
theorem em_n (h : EvN K te G ds) : EvM K te G (.own ds) := fun F0 H0 F H σ s Q q => h F0 H0 F H σ s Q fun p vs F' H' t h1 h2 h3 r => q _ F' H' t ⟨p, vs, rfl, h3, h2, h1, r⟩
/-- a place taken by such a thing -/
theorem SOk.setM {F0 H0 F H Hs : Hp} {σ : L2.St} (s : SOk K F0 H0 F H σ G) {i : Nat} {c : Sl} {v : V} (m : MOk K Hs F H c v) (h0 : Same H0 Hs) (hc : c ≠ .un)
    (new : ∀ (p : Addr), v = .ref p → Hs p = none → ∀ (j : Nat) (es : List D), G[j]? = some (.own es) → σ[j]? ≠ some (some (.ref p))) : SOk K F0 H0 F H (σ.set i (some v)) (G.set i c) := by
  cases c with
  | un => exact absurd rfl hc
  | val d => exact s.set m
  | own ds =>
    obtain ⟨p, vs, rfl, h1, h2, h3, h4⟩ := m
    exact s.setOwn h1 h2 (h0.free h3) h4 (new p rfl h3)
theorem own_set {σ : L2.St} {i : Nat} {c : Sl} {v : V} {p : Addr} (hv : v ≠ .ref p) (n : ∀ (j : Nat) (es : List D), G[j]? = some (.own es) → σ[j]? ≠ some (some (.ref p))) (hl : σ.length = G.length) :
    ∀ (j : Nat) (es : List D), (G.set i c)[j]? = some (.own es) → (σ.set i (some v))[j]? ≠ some (some (.ref p)) := fun j es e z => by
  rcases get_set e with ⟨rfl, _, h1⟩ | ⟨h1, h2⟩
  · rw [List.getElem?_set_self (by rw [hl]; exact h1)] at z
    exact hv (Option.some.inj (Option.some.inj z))
  · rw [List.getElem?_set_ne h1] at z
    exact n j es h2 z
theorem mok_ne {Hs F H : Hp} {c : Sl} {v : V} {p : Addr} {es : List D} (m : MOk K Hs F H c v) {H1 : Hp} (hp : H1 p = none) (hs : Same Hs H1) (hc : c = .own es) (hH : ∀ q o, H q = some o → Hs q = none → H1 q = some o) : v ≠ .ref p := by
  subst hc
  obtain ⟨q, vs, rfl, h1, h2, h3, h4⟩ := m
  intro z
  cases z
  rw [hH _ _ h1 h3] at hp
  cases hp
theorem st_par {i j : Nat} {c1 c2 : Sl} (h1 : EvM K ta G c1) (h2 : EvM K tb G c2) (n1 : c1 ≠ .un) (n2 : c2 ≠ .un) (ne : i ≠ j) : StD K (tPar i j (tCons ta (tCons tb tNil))) G (.nx ((G.set i c1).set j c2)) := fun F0 H0 F H σ E s q =>
  h1 F0 H0 F H σ s _ fun v1 F1 H1 t1 m1 => h2 F0 H0 F1 H1 σ (s.step t1) _ fun v2 F2 H2 t2 m2 => by
    refine ⟨v1, v2, rfl, ?_⟩
    have t := t1.trans t2
    have s2 := s.step t
    have sA := s2.setM (i := i) (m1.step t2) s.st.hh n1 fun p _ hp k es e => s.nown (F' := F) (H' := H) hp k es e
    refine q _ F2 H2 (sA.setM (i := j) m2 (s.st.hh.trans t1.hh) n2 fun p hv hp k es e z => ?_) t.ff
    rcases get_set e with ⟨rfl, ec, hl⟩ | ⟨nk, e'⟩
    · rw [List.getElem?_set_self (by rw [s2.len]; exact hl)] at z
      have zv : v1 = .ref p := Option.some.inj (Option.some.inj z)
      rw [← ec] at m1
      obtain ⟨a, vs, rfl, g1, g2, g3, g4⟩ := m1
      cases zv
      rw [g1] at hp
      cases hp
    · rw [List.getElem?_set_ne nk] at z
      exact (s.step t1).nown (F' := F) (H' := H) hp k es e' z
theorem st_par3 {i j l : Nat} {c1 c2 c3 : Sl} (h1 : EvM K ta G c1) (h2 : EvM K tb G c2) (h3 : EvM K tc G c3) (n1 : c1 ≠ .un) (n2 : c2 ≠ .un) (n3 : c3 ≠ .un) (nij : i ≠ j) (nil : i ≠ l) (njl : j ≠ l) : StD K (tPar3 i j l (tCons ta (tCons tb (tCons tc tNil)))) G (.nx (((G.set i c1).set j c2).set l c3)) := fun F0 H0 F H σ E s q =>
  h1 F0 H0 F H σ s _ fun v1 F1 H1 t1 m1 => h2 F0 H0 F1 H1 σ (s.step t1) _ fun v2 F2 H2 t2 m2 => h3 F0 H0 F2 H2 σ ((s.step t1).step t2) _ fun v3 F3 H3 t3 m3 => by
    refine ⟨v1, v2, v3, rfl, ?_⟩
    have t := (t1.trans t2).trans t3
    have s3 := s.step t
    have sA := s3.setM (i := i) (m1.step (t2.trans t3)) s.st.hh n1 fun p _ hp k es e => s.nown (F' := F) (H' := H) hp k es e
    have sB := sA.setM (i := j) (m2.step t3) (s.st.hh.trans t1.hh) n2 fun p hv hp k es e z => by
      rcases get_set e with ⟨rfl, ec, hl⟩ | ⟨nk, e'⟩
      · rw [List.getElem?_set_self (by rw [s3.len]; exact hl)] at z
        have zv : v1 = .ref p := Option.some.inj (Option.some.inj z)
        rw [← ec] at m1
        obtain ⟨a, vs, rfl, g1, g2, g3, g4⟩ := m1
        cases zv
        rw [g1] at hp
        cases hp
      · rw [List.getElem?_set_ne nk] at z
        exact (s.step t1).nown (F' := F) (H' := H) hp k es e' z
    refine q _ F3 H3 (sB.setM (i := l) m3 ((s.st.hh.trans t1.hh).trans t2.hh) n3 fun p hv hp k es e z => ?_) t.ff
    rcases get_set e with ⟨rfl, ec, hl⟩ | ⟨nk, e'⟩
    · rw [List.getElem?_set_self (by rw [List.length_set, s3.len]; simpa using hl)] at z
      have zv : v2 = .ref p := Option.some.inj (Option.some.inj z)
      rw [← ec] at m2
      obtain ⟨a, vs, rfl, g1, g2, g3, g4⟩ := m2
      cases zv
      rw [g1] at hp
      cases hp
    · rw [List.getElem?_set_ne nk] at z
      rcases get_set e' with ⟨rfl, ec, hl⟩ | ⟨nk2, e''⟩
      · rw [List.getElem?_set_self (by rw [s3.len]; exact hl)] at z
        have zv : v1 = .ref p := Option.some.inj (Option.some.inj z)
        rw [← ec] at m1
        obtain ⟨a, vs, rfl, g1, g2, g3, g4⟩ := m1
        cases zv
        have := t2.hh _ _ g1
        rw [this] at hp
        cases hp
      · rw [List.getElem?_set_ne nk2] at z
        exact ((s.step t1).step t2).nown (F' := F) (H' := H) hp k es e'' z
end
end Cw
set_option maxHeartbeats 4000000
namespace Cw
open PySem PySem.Spec PyProof.Rows L2
section
variable {K : Fg} {G G' G1 G2 : Ctx} {te ta tb tc : TE} {tt tu : TT} {tr : TA} {t u r : TS} {d e a b c : D} {ds es : List D} {o : Out}
/-! ### a, b = x, y by a tuple (names that a comprehension reads) -/
theorem par_two {F0 H0 F H F1 H1 F2 H2 F3 H3 : Hp} {σ : L2.St} {v1 v2 : V} {c1 c2 : Sl} {i j : Nat} (s : SOk K F0 H0 F H σ G) (t1 : Step F H F1 H1) (t2 : Step F1 H1 F2 H2) (t3 : Step F2 H2 F3 H3) (m1 : MOk K H F1 H1 c1 v1) (m2 : MOk K H1 F2 H2 c2 v2)
    (n1 : c1 ≠ .un) (n2 : c2 ≠ .un) : SOk K F0 H0 F3 H3 ((σ.set i (some v1)).set j (some v2)) ((G.set i c1).set j c2) := by
  have s3 := s.step ((t1.trans t2).trans t3)
  have sA := s3.setM (i := i) (m1.step (t2.trans t3)) s.st.hh n1 fun p _ hp k es e => s.nown (F' := F) (H' := H) hp k es e
  refine sA.setM (i := j) (m2.step t3) (s.st.hh.trans t1.hh) n2 fun p hv hp k es e z => ?_
  rcases get_set e with ⟨rfl, ec, hl⟩ | ⟨nk, e'⟩
  · rw [List.getElem?_set_self (by rw [s3.len]; exact hl)] at z
    have zv : v1 = .ref p := Option.some.inj (Option.some.inj z)
    rw [← ec] at m1
    obtain ⟨a, vs, rfl, g1, g2, g3, g4⟩ := m1
    cases zv
    rw [g1] at hp
    cases hp
  · rw [List.getElem?_set_ne nk] at z
    exact (s.step t1).nown (F' := F) (H' := H) hp k es e' z
theorem st_parT {i j : Nat} {c1 c2 : Sl} (h1 : EvM K ta G c1) (h2 : EvM K tb G c2) (n1 : c1 ≠ .un) (n2 : c2 ≠ .un) : StD K (tAsg (tTup (tCons ta (tCons tb tNil))) (gTup K 2 (gCons (gName i) (gCons (gName j) gNil)))) G (.nx ((G.set i c1).set j c2)) := fun F0 H0 F H σ E s q =>
  h1 F0 H0 F H σ s _ fun v1 F1 H1 t1 m1 => h2 F0 H0 F1 H1 σ (s.step t1) _ fun v2 F2 H2 t2 m2 => by
    refine ⟨by show 2 ≤ sizeLine; decide, fun p hp => ?_⟩
    have t3 : Step F2 H2 F2 (upd H2 p (.tup [v1, v2])) := Step.newP t2.fh hp
    exact ⟨p, [v1, v2], rfl, .inl (.inl upd_same), rfl, v1, [v2], rfl, v2, [], rfl, rfl, q _ F2 _ (par_two s t1 t2 t3 m1 m2 n1 n2) (t1.trans t2).ff⟩
theorem st_parT3 {i j l : Nat} (h1 : EvD K ta G a) (h2 : EvD K tb G b) (h3 : EvD K tc G c) : StD K (tAsg (tTup (tCons ta (tCons tb (tCons tc tNil)))) (gTup K 3 (gCons (gName i) (gCons (gName j) (gCons (gName l) gNil))))) G (.nx (((G.set i (.val a)).set j (.val b)).set l (.val c))) :=
  st_asg (ev_tup (ea_cons h1 (ea_cons h2 (ea_cons h3 ea_nil))) (by show 3 ≤ sizeLine; decide)) (tg_tup (tgs_cons tg_name (tgs_cons tg_name (tgs_cons tg_name tgs_nil))) rfl)
/-- a, b = f(..) -/
theorem st_unp2 {i j : Nat} (h : EvD K te G (.tup [a, b])) : StD K (tAsg te (gTup K 2 (gCons (gName i) (gCons (gName j) gNil)))) G (.nx ((G.set i (.val a)).set j (.val b))) :=
  st_asg h (tg_tup (tgs_cons tg_name (tgs_cons tg_name tgs_nil)) rfl)
theorem st_unp3 {i j l : Nat} (h : EvD K te G (.tup [a, b, c])) : StD K (tAsg te (gTup K 3 (gCons (gName i) (gCons (gName j) (gCons (gName l) gNil))))) G (.nx (((G.set i (.val a)).set j (.val b)).set l (.val c))) :=
  st_asg h (tg_tup (tgs_cons tg_name (tgs_cons tg_name (tgs_cons tg_name tgs_nil))) rfl)
theorem st_unp5 {i j l m n : Nat} (h : EvD K te G (.tup [a, b, c, d, e])) : StD K (tAsg te (gTup K 5 (gCons (gName i) (gCons (gName j) (gCons (gName l) (gCons (gName m) (gCons (gName n) gNil))))))) G (.nx (((((G.set i (.val a)).set j (.val b)).set l (.val c)).set m (.val d)).set n (.val e))) :=
  st_asg h (tg_tup (tgs_cons tg_name (tgs_cons tg_name (tgs_cons tg_name (tgs_cons tg_name (tgs_cons tg_name tgs_nil))))) rfl)

/-! ### for -/
theorem take_snoc {α : Type} : ∀ (l : List α) (i : Nat) (h : i < l.length), l.take i ++ [l[i]] = l.take (i + 1)
  | [], i, h => by simp at h
  | a :: l, 0, h => rfl
  | a :: l, i + 1, h => by
    show a :: (l.take i ++ [l[i]'(by simpa using h)]) = a :: l.take (i + 1)
    rw [take_snoc l i (by simpa using h)]
theorem st_for {α S : Type} {wi : TI} {g : TG} {as : List α} {enc : α → D} {Gs : S → Ctx} {step : S → α → S} {s0 : S} (hi : ItD K wi (Gs s0) (as.map enc))
    (hb : ∀ pre x post, as = pre ++ x :: post → ∃ Gt is, TgD K g (enc x) (Gs (pre.foldl step s0)) Gt is ∧ StD K t Gt (.lp (Gs (step (pre.foldl step s0) x)))) : StD K (tFor wi g t) (Gs s0) (.nx (Gs (as.foldl step s0))) := fun F0 H0 F H σ E s q => by
  refine hi F0 H0 F H σ s _ fun J F1 H1 t1 w => ?_
  refine ⟨fun i m σ' H' => m = as.length - i ∧ i ≤ as.length ∧ ∃ F', SOk K F0 H0 F' H' σ' (Gs ((as.take i).foldl step s0)) ∧ Same F1 F', ⟨as.length, rfl, Nat.zero_le _, F1, s.step t1, Same.refl _⟩, ?_⟩
  rintro i m σ' H' ⟨rfl, hi, F', s', sf⟩
  obtain ⟨w1, w2⟩ := w F' H' sf s'.fh
  by_cases hlt : i < as.length
  · have hx : (as.map enc)[i]? = some (enc as[i]) := by rw [List.getElem?_map, List.getElem?_eq_getElem hlt]; rfl
    obtain ⟨go, yl⟩ := w1 i _ hx
    have e1 : as = as.take i ++ as[i] :: as.drop (i + 1) := by rw [List.getElem_cons_drop]; exact (List.take_append_drop i as).symm
    obtain ⟨Gt, is, tg, bd⟩ := hb _ _ _ e1
    have e2 : (as.take (i + 1)).foldl step s0 = step ((as.take i).foldl step s0) as[i] := by rw [← take_snoc as i hlt, List.foldl_append]; rfl
    refine .inr ⟨go, fun σ2 H2 => ∃ F2, SOk K F0 H0 F2 H2 σ2 (Gs ((as.take (i + 1)).foldl step s0)) ∧ Same F1 F2, fun σ2 H2 ⟨F2, p1, p2⟩ => ⟨as.length - (i + 1), by omega, rfl, hlt, F2, p1, p2⟩, fun x H2 y => ?_⟩
    obtain ⟨F2, t2, r2⟩ := yl x H2 y
    refine tg F0 H0 F2 H2 σ' x (s'.step t2) r2 _ fun σ3 s3 _ _ => ?_
    rw [e2]
    refine bd F0 H0 F2 H2 σ3 _ s3 fun σ4 F4 H4 s4 f4 => ?_
    have : Same F1 F4 := (sf.trans t2.ff).trans f4
    exact ⟨⟨F4, s4, this⟩, ⟨F4, s4, this⟩⟩
  · have e : i = as.length := by omega
    subst e
    rw [List.take_length] at s'
    exact .inl ⟨w2 _ (by simp), q σ' F' H' s' (t1.ff.trans sf)⟩
/-- a loop that is left by a return at the item x -/
theorem st_forR {α S : Type} {wi : TI} {g : TG} {as : List α} {enc : α → D} {Gs : S → Ctx} {step : S → α → S} {s0 : S} {pre post : List α} {x : α} (ea : as = pre ++ x :: post) (hi : ItD K wi (Gs s0) (as.map enc))
    (hb : ∀ pr y ps, pre = pr ++ y :: ps → ∃ Gt is, TgD K g (enc y) (Gs (pr.foldl step s0)) Gt is ∧ StD K t Gt (.lp (Gs (step (pr.foldl step s0) y))))
    (hr : ∃ Gt is, TgD K g (enc x) (Gs (pre.foldl step s0)) Gt is ∧ StD K t Gt (.rt d)) : StD K (tFor wi g t) (Gs s0) (.rt d) := fun F0 H0 F H σ E s q => by
  refine hi F0 H0 F H σ s _ fun J F1 H1 t1 w => ?_
  refine ⟨fun i m σ' H' => m = as.length - i ∧ i ≤ pre.length ∧ ∃ F', SOk K F0 H0 F' H' σ' (Gs ((pre.take i).foldl step s0)) ∧ Same F1 F', ⟨as.length, rfl, Nat.zero_le _, F1, s.step t1, Same.refl _⟩, ?_⟩
  rintro i m σ' H' ⟨rfl, hi, F', s', sf⟩
  obtain ⟨w1, w2⟩ := w F' H' sf s'.fh
  by_cases hlt : i < pre.length
  · have hx : (as.map enc)[i]? = some (enc pre[i]) := by rw [List.getElem?_map, ea, List.getElem?_append_left hlt, List.getElem?_eq_getElem hlt]; rfl
    obtain ⟨go, yl⟩ := w1 i _ hx
    have e1 : pre = pre.take i ++ pre[i] :: pre.drop (i + 1) := by rw [List.getElem_cons_drop]; exact (List.take_append_drop i pre).symm
    obtain ⟨Gt, is, tg, bd⟩ := hb _ _ _ e1
    have e2 : (pre.take (i + 1)).foldl step s0 = step ((pre.take i).foldl step s0) pre[i] := by rw [← take_snoc pre i hlt, List.foldl_append]; rfl
    have hlen : i < as.length := by rw [ea, List.length_append]; omega
    refine .inr ⟨go, fun σ2 H2 => ∃ F2, SOk K F0 H0 F2 H2 σ2 (Gs ((pre.take (i + 1)).foldl step s0)) ∧ Same F1 F2, fun σ2 H2 ⟨F2, p1, p2⟩ => ⟨as.length - (i + 1), by omega, rfl, hlt, F2, p1, p2⟩, fun x H2 y => ?_⟩
    obtain ⟨F2, t2, r2⟩ := yl x H2 y
    refine tg F0 H0 F2 H2 σ' x (s'.step t2) r2 _ fun σ3 s3 _ _ => ?_
    rw [e2]
    refine bd F0 H0 F2 H2 σ3 _ s3 fun σ4 F4 H4 s4 f4 => ?_
    have : Same F1 F4 := (sf.trans t2.ff).trans f4
    exact ⟨⟨F4, s4, this⟩, ⟨F4, s4, this⟩⟩
  · have e : i = pre.length := by omega
    subst e
    rw [List.take_length] at s'
    have hx : (as.map enc)[pre.length]? = some (enc x) := by rw [List.getElem?_map, ea, List.getElem?_append_right (Nat.le_refl _), Nat.sub_self]; rfl
    obtain ⟨go, yl⟩ := w1 _ _ hx
    obtain ⟨Gt, is, tg, bd⟩ := hr
    refine .inr ⟨go, fun _ _ => False, fun _ _ z => z.elim, fun y H2 z => ?_⟩
    obtain ⟨F2, t2, r2⟩ := yl y H2 z
    exact tg F0 H0 F2 H2 σ' y (s'.step t2) r2 _ fun σ3 s3 _ _ => bd F0 H0 F2 H2 σ3 _ s3 fun v F4 H4 s4 f4 r4 => q v F4 H4 s4 (((t1.ff.trans sf).trans t2.ff).trans f4) r4

/-! ### while -/
def whileN {S : Type} (c : S → Bool) (f : S → S) : Nat → S → S
  | 0, s => s
  | n + 1, s => if c s = true then whileN c f n (f s) else s
theorem st_while {S : Type} {Gs : S → Ctx} {cd : S → Bool} {f : S → S} {Iv : S → Prop} {μ : S → Nat} (n : Nat) {s0 : S} (hn : μ s0 ≤ n) (h0 : Iv s0) (hc : ∀ s, Iv s → EvB K tt (Gs s) (cd s))
    (hb : ∀ s, Iv s → cd s = true → StD K t (Gs s) (.lp (Gs (f s))) ∧ Iv (f s) ∧ μ (f s) < μ s) : StD K (tWhile tt t) (Gs s0) (.nx (Gs (whileN cd f n s0))) := fun F0 H0 F H σ E s q => by
  refine ⟨fun m σ' H' => ∃ (s : S) (k : Nat) (F' : Hp), m = μ s ∧ Iv s ∧ μ s ≤ k ∧ whileN cd f k s = whileN cd f n s0 ∧ SOk K F0 H0 F' H' σ' (Gs s) ∧ Same F F', ⟨μ s0, s0, n, F, rfl, h0, hn, rfl, s, Same.refl _⟩, ?_⟩
  rintro m σ' H' ⟨s1, k, F', rfl, i1, hk, e1, s', sf⟩
  refine hc s1 i1 F0 H0 F' H' σ' s' _ fun F2 H2 t2 => ?_
  cases z : cd s1 with
  | true =>
    obtain ⟨b1, b2, b3⟩ := hb s1 i1 z
    cases k with
    | zero => omega
    | succ k =>
      refine iteT ⟨fun σ3 H3 => ∃ F3, SOk K F0 H0 F3 H3 σ3 (Gs (f s1)) ∧ Same F F3, fun σ3 H3 ⟨F3, p1, p2⟩ => ⟨μ (f s1), b3, f s1, k, F3, rfl, b2, by omega, ?_, p1, p2⟩, ?_⟩
      · rw [← e1]
        show _ = (if cd s1 = true then whileN cd f k (f s1) else s1)
        rw [if_pos z]
      · exact b1 F0 H0 F2 H2 σ' _ (s'.step t2) fun σ4 F4 H4 s4 f4 => ⟨⟨F4, s4, (sf.trans t2.ff).trans f4⟩, ⟨F4, s4, (sf.trans t2.ff).trans f4⟩⟩
  | false =>
    have e2 : whileN cd f k s1 = s1 := by
      cases k with
      | zero => rfl
      | succ k =>
        show (if cd s1 = true then whileN cd f k (f s1) else s1) = s1
        rw [if_neg (by rw [z]; exact Bool.false_ne_true)]
    rw [e2] at e1
    subst e1
    exact iteF (q σ' F2 H2 (s'.step t2) (sf.trans t2.ff))

/-! ### iterators -/
theorem it_list {tl : TE} (h : EvD K tl G (.lst ds)) : ItD K (iList K tl) G ds := fun F0 H0 F H σ s R q => h F0 H0 F H σ s _ fun v F1 H1 t1 r1 => by
  obtain ⟨a, vs, rfl, h1, h2⟩ := r1
  refine ⟨a, rfl, ⟨vs, .inl (.inl (t1.fh _ _ h1))⟩, q _ F1 H1 t1 fun F2 H2 f2 g2 => ⟨fun i d hd => ?_, fun i hi => ⟨vs, .inl (.inl (g2 _ _ (f2 _ _ h1))), by rw [h2.len]; exact hi⟩⟩⟩
  obtain ⟨x, hx, rx⟩ := h2.get hd
  have hs : SqL K H2 a vs := .inl (.inl (g2 _ _ (f2 _ _ h1)))
  refine ⟨⟨vs, x, hs, hx⟩, fun y H3 hy => ?_⟩
  obtain ⟨rfl, hy⟩ := hy
  have := hy vs hs
  rw [hx] at this
  cases this
  exact ⟨F2, Step.refl g2, Rep.mono f2 _ _ rx⟩
theorem it_tup {tl : TE} (h : EvD K tl G (.tup ds)) : ItD K (iTup K tl) G ds := fun F0 H0 F H σ s R q => h F0 H0 F H σ s _ fun v F1 H1 t1 r1 => by
  obtain ⟨a, vs, rfl, h1, h2⟩ := r1
  refine ⟨a, rfl, ⟨vs, sqT_mono t1.fh h1⟩, q _ F1 H1 t1 fun F2 H2 f2 g2 => ⟨fun i d hd => ?_, fun i hi => ⟨vs, sqT_mono (f2.trans g2) h1, by rw [h2.len]; exact hi⟩⟩⟩
  obtain ⟨x, hx, rx⟩ := h2.get hd
  have hs : SqT K H2 a vs := sqT_mono (f2.trans g2) h1
  refine ⟨⟨vs, x, hs, hx⟩, fun y H3 hy => ?_⟩
  obtain ⟨rfl, hy⟩ := hy
  have := hy vs hs
  rw [hx] at this
  cases this
  exact ⟨F2, Step.refl g2, Rep.mono f2 _ _ rx⟩
/-- lo, lo + c, .. -/
def rangeC (lo c : Int) (n : Nat) : List Int := (List.range n).map fun (k : Nat) => lo + (k : Int) * c
def rangeI (lo : Int) (n : Nat) : List Int := (List.range n).map fun (k : Nat) => lo + (k : Int)
theorem rangeI_get {lo : Int} {n i : Nat} (h : i < n) : (rangeI lo n)[i]? = some (lo + (i : Int)) := by
  unfold rangeI
  rw [List.getElem?_map, List.getElem?_range h]
  rfl
theorem rangeI_len {lo : Int} {n : Nat} : (rangeI lo n).length = n := by simp [rangeI]
theorem rangeC_len {lo c : Int} {n : Nat} : (rangeC lo c n).length = n := by simp [rangeC]
theorem rangeI_mem {lo : Int} {n : Nat} {x : Int} (h : x ∈ rangeI lo n) : lo ≤ x ∧ x < lo + n := by
  obtain ⟨k, hk, rfl⟩ := List.mem_map.mp h
  have := List.mem_range.mp hk
  omega
theorem walk_rng {F : Hp} {lo : Int} {n : Nat} : Walks K (Itr lo n) F ((rangeI lo n).map D.int) := fun F2 H2 f2 g2 => ⟨fun i d hd => by
  have hi : i < n := by
    have := (List.getElem?_eq_some_iff.mp hd).1
    simpa [rangeI] using this
  refine ⟨hi, fun x H3 hy => ?_⟩
  obtain ⟨rfl, rfl⟩ := hy
  rw [List.getElem?_map, rangeI_get hi] at hd
  cases hd
  exact ⟨F2, Step.refl g2, rfl⟩, fun i hi => by
  have : n ≤ i := by simpa [rangeI] using hi
  exact this⟩
theorem walk_rngC {F : Hp} {lo c : Int} {n : Nat} : Walks K (Itc lo c n) F ((rangeC lo c n).map D.int) := fun F2 H2 f2 g2 => ⟨fun i d hd => by
  have hi : i < n := by
    have := (List.getElem?_eq_some_iff.mp hd).1
    simpa [rangeC] using this
  refine ⟨hi, fun x H3 hy => ?_⟩
  obtain ⟨rfl, rfl⟩ := hy
  rw [List.getElem?_map] at hd
  unfold rangeC at hd
  rw [List.getElem?_map, List.getElem?_range hi] at hd
  cases hd
  exact ⟨F2, Step.refl g2, rfl⟩, fun i hi => by
  have : n ≤ i := by simpa [rangeC] using hi
  exact this⟩
theorem it_rng1 {n : Int} (hn : -(2 ^ 62) ≤ n ∧ n < 2 ^ 62) (h : EvD K ta G (.int n)) : ItD K (iRng1 (tCons ta tNil)) G ((rangeI 0 n.toNat).map D.int) := fun F0 H0 F H σ s R q => h F0 H0 F H σ s _ fun v F1 H1 t1 r1 => by
  cases r1
  exact ⟨n, rfl, hn.1, hn.2, q _ F1 H1 t1 walk_rng⟩
theorem it_rng2 {m n : Int} (hm : -(2 ^ 62) ≤ m ∧ m < 2 ^ 62 ∧ -(2 ^ 62) ≤ n ∧ n < 2 ^ 62) (h : EvD K ta G (.int m)) (h2 : EvD K tb G (.int n)) : ItD K (iRng2 (tCons ta (tCons tb tNil))) G ((rangeI m (n - m).toNat).map D.int) := fun F0 H0 F H σ s R q =>
  h F0 H0 F H σ s _ fun v F1 H1 t1 r1 => h2 F0 H0 F1 H1 σ (s.step t1) _ fun w F2 H2 t2 r2 => by
    cases r1
    cases r2
    exact ⟨m, n, rfl, hm, q _ F2 H2 (t1.trans t2) walk_rng⟩
theorem it_rng3 {m n l : Int} {k : Nat} (hk : RgC m n l k) (h : EvD K ta G (.int m)) (h2 : EvD K tb G (.int n)) (h3 : EvD K tc G (.int l)) : ItD K (iRng3 (tCons ta (tCons tb (tCons tc tNil)))) G ((rangeC m l k).map D.int) := fun F0 H0 F H σ s R q =>
  h F0 H0 F H σ s _ fun v F1 H1 t1 r1 => h2 F0 H0 F1 H1 σ (s.step t1) _ fun w F2 H2 t2 r2 => h3 F0 H0 F2 H2 σ ((s.step t1).step t2) _ fun x F3 H3 t3 r3 => by
    cases r1
    cases r2
    cases r3
    exact ⟨m, n, l, k, rfl, hk, q _ F3 H3 ((t1.trans t2).trans t3) walk_rngC⟩
/-- enumerate -/
def enumI {α : Type} (as : List α) : List (Int × α) := as.mapIdx fun i a => ((i : Int), a)
def encE {α : Type} (enc : α → D) (p : Int × α) : D := .tup [.int p.1, enc p.2]
theorem it_enum {α : Type} {as : List α} {enc : α → D} (h : EvD K ta G (.lst (as.map enc))) : ItD K (iEnum K (tCons ta tNil)) G ((enumI as).map (encE enc)) := fun F0 H0 F H σ s R q => h F0 H0 F H σ s _ fun v F1 H1 t1 r1 => by
  obtain ⟨a, vs, rfl, h1, h2⟩ := r1
  have hl := h2.len
  rw [List.length_map] at hl
  refine ⟨a, vs, rfl, .inl (.inl (t1.fh _ _ h1)), q _ F1 H1 t1 fun F2 H2 f2 g2 => ?_⟩
  have hs : SqL K H2 a vs := .inl (.inl (g2 _ _ (f2 _ _ h1)))
  refine ⟨fun i d hd => ?_, fun i hi => ⟨vs, hs, by rw [hl]; simpa [enumI] using hi⟩⟩
  rw [List.getElem?_map] at hd
  unfold enumI at hd
  rw [List.getElem?_mapIdx] at hd
  cases ei : as[i]? with
  | none => rw [ei] at hd; cases hd
  | some x0 =>
    rw [ei] at hd
    cases hd
    obtain ⟨x, hx, rx⟩ := h2.get (i := i) (d := enc x0) (by rw [List.getElem?_map, ei]; rfl)
    refine ⟨⟨vs, x, hs, hx⟩, fun y H3 hy => ?_⟩
    obtain ⟨T, x', rfl, hT, rfl, hy⟩ := hy
    have := hy vs hs
    rw [hx] at this
    cases this
    exact ⟨upd F2 T (.tup [.int (i : Nat), x]), Step.newF g2 hT, T, _, rfl, .inl (.inl upd_same), .int (i : Nat), [x], rfl, rfl, x, [], rfl, Rep.mono (f2.trans (same_new (g2.free hT))) _ _ rx, rfl⟩
def encZ {α β : Type} (ea : α → D) (eb : β → D) (p : α × β) : D := .tup [ea p.1, eb p.2]
theorem it_zip {α β : Type} {as : List α} {bs : List β} {ea : α → D} {eb : β → D} (h : EvD K ta G (.lst (as.map ea))) (h2 : EvD K tb G (.lst (bs.map eb))) : ItD K (iZip K (tCons ta (tCons tb tNil))) G ((as.zip bs).map (encZ ea eb)) := fun F0 H0 F H σ s R q =>
  h F0 H0 F H σ s _ fun v F1 H1 t1 r1 => h2 F0 H0 F1 H1 σ (s.step t1) _ fun w F2 H2 t2 r2 => by
    obtain ⟨a, vs, rfl, h1, h2⟩ := r1
    obtain ⟨b, ws, rfl, k1, k2⟩ := r2
    have hl := h2.len
    have kl := k2.len
    rw [List.length_map] at hl kl
    have h1' := t2.ff _ _ h1
    refine ⟨a, b, vs, ws, rfl, .inl (.inl (t2.fh _ _ h1')), .inl (.inl (t2.fh _ _ k1)), q _ F2 H2 (t1.trans t2) fun F3 H3 f3 g3 => ?_⟩
    have hs : SqL K H3 a vs := .inl (.inl (g3 _ _ (f3 _ _ h1')))
    have ks : SqL K H3 b ws := .inl (.inl (g3 _ _ (f3 _ _ k1)))
    refine ⟨fun i d hd => ?_, fun i hi => ⟨vs, ws, hs, ks, by simp at hi; omega⟩⟩
    rw [List.getElem?_map] at hd
    cases ez : (as.zip bs)[i]? with
    | none => rw [ez] at hd; cases hd
    | some p =>
      rw [ez] at hd
      cases hd
      obtain ⟨e1, e2⟩ := List.getElem?_zip_eq_some.mp ez
      obtain ⟨x, hx, rx⟩ := h2.get (i := i) (d := ea p.1) (by rw [List.getElem?_map, e1]; rfl)
      obtain ⟨y, hy, ry⟩ := k2.get (i := i) (d := eb p.2) (by rw [List.getElem?_map, e2]; rfl)
      refine ⟨⟨vs, ws, x, y, hs, ks, hx, hy⟩, fun z H4 hz => ?_⟩
      obtain ⟨T, x', y', rfl, hT, rfl, g1, g2⟩ := hz
      have z1 := g1 vs hs
      have z2 := g2 ws ks
      rw [hx] at z1
      rw [hy] at z2
      cases z1
      cases z2
      have sm := same_new (o := .tup [x, y]) (g3.free hT)
      exact ⟨upd F3 T (.tup [x, y]), Step.newF g3 hT, T, _, rfl, .inl (.inl upd_same), x, [y], rfl, Rep.mono ((t2.ff.trans f3).trans sm) _ _ rx, y, [], rfl, Rep.mono (f3.trans sm) _ _ ry, rfl⟩

/-! ### comprehensions -/
def wipeC (G : Ctx) : List Nat → Ctx
  | [] => G
  | v :: vs => (wipeC G vs).set v .un
theorem SOk.un {F0 H0 F H : Hp} {σ : L2.St} (s : SOk K F0 H0 F H σ G) (i : Nat) : SOk K F0 H0 F H (σ.set i none) (G.set i .un) where
  st := s.st
  len := by rw [List.length_set, List.length_set, s.len]
  sl := fun j c e => by
    rcases get_set e with ⟨rfl, rfl, hl⟩ | ⟨ne, e'⟩
    · exact ⟨none, by rw [List.getElem?_set_self (by rw [s.len]; exact hl)], trivial⟩
    · obtain ⟨o, h1, h2⟩ := s.sl j c e'
      exact ⟨o, by rw [List.getElem?_set_ne ne]; exact h1, h2⟩
  ap := fun j k ds es a e1 e2 h1 h2 => by
    rcases get_set e1 with ⟨_, q, _⟩ | ⟨n1, e1'⟩
    · cases q
    · rcases get_set e2 with ⟨_, q, _⟩ | ⟨n2, e2'⟩
      · cases q
      · rw [List.getElem?_set_ne n1] at h1
        rw [List.getElem?_set_ne n2] at h2
        exact s.ap j k ds es a e1' e2' h1 h2
theorem SOk.wipe {F0 H0 F H : Hp} {σ : L2.St} (s : SOk K F0 H0 F H σ G) : ∀ vs : List Nat, SOk K F0 H0 F H (L2.wipe σ vs) (wipeC G vs)
  | [] => s
  | v :: vs => (s.wipe vs).un v
theorem wipe_at {σ : L2.St} : ∀ {vs : List Nat} {i : Nat}, i < σ.length → (L2.wipe σ vs)[i]? = if i ∈ vs then some none else σ[i]?
  | [], i, h => by simp [L2.wipe]
  | v :: vs, i, h => by
    unfold L2.wipe
    by_cases q : v = i
    · subst q
      rw [List.getElem?_set_self (by rw [wipe_length]; exact h), if_pos (by simp)]
    · rw [List.getElem?_set_ne q, wipe_at h]
      have : (i ∈ v :: vs) ↔ i ∈ vs := by simp [Ne.symm q]
      simp only [this]
theorem wipe_back {σ σ2 : L2.St} {vs is : List Nat} (hl : σ2.length = (L2.wipe σ vs).length) (h : ∀ i : Nat, i ∉ is → σ2[i]? = (L2.wipe σ vs)[i]?) (sub : ∀ i ∈ is, i ∈ vs) : L2.wipe σ2 vs = L2.wipe σ vs := by
  have hl2 : σ2.length = σ.length := by rw [hl, wipe_length]
  apply List.ext_getElem?
  intro i
  by_cases hi : i < σ.length
  · rw [wipe_at (by rw [hl2]; exact hi), wipe_at hi]
    by_cases hv : i ∈ vs
    · rw [if_pos hv, if_pos hv]
    · rw [if_neg hv, if_neg hv, h i fun z => hv (sub i z), wipe_at hi, if_neg hv]
  · rw [List.getElem?_eq_none (by rw [wipe_length, hl2]; omega), List.getElem?_eq_none (by rw [wipe_length]; omega)]
/-- [e for x in xs if c] -/
theorem en_lc {α : Type} {wi : TI} {g : TG} {vs : List Nat} {as : List α} {enc : α → D} {cd : α → Bool} {f : α → D} (hl : as.length ≤ sizeLine) (hi : ItD K wi G (as.map enc))
    (hb : ∀ pre x post, as = pre ++ x :: post → ∃ Gt is, TgD K g (enc x) (wipeC G vs) Gt is ∧ (∀ i ∈ is, i ∈ vs) ∧ EvB K tt Gt (cd x) ∧ (cd x = true → EvD K te Gt (f x))) : EvN K (tLc wi g tt te vs) G ((as.filter cd).map f) := fun F0 H0 F H σ s Q q => by
  refine hi F0 H0 F H σ s _ fun J F1 H1 t1 w => fun D hD => ?_
  have s1 := s.step t1
  refine ⟨fun i m H' => m = as.length - i ∧ i ≤ as.length ∧ ∃ F' us, Step F1 H1 F' H' ∧ H' D = some (.lst us) ∧ F' D = none ∧ Reps K F' (((as.take i).filter cd).map f) us, ⟨as.length, rfl, Nat.zero_le _, F1, [], Step.newP t1.fh hD, upd_same, t1.fh.free hD, rfl⟩, ?_⟩
  rintro i m H' ⟨rfl, hi, F', us, t', hu, hf, ru⟩
  obtain ⟨w1, w2⟩ := w F' H' t'.ff t'.fh
  by_cases hlt : i < as.length
  · have hx : (as.map enc)[i]? = some (enc as[i]) := by rw [List.getElem?_map, List.getElem?_eq_getElem hlt]; rfl
    obtain ⟨go, yl⟩ := w1 i _ hx
    have e1 : as = as.take i ++ as[i] :: as.drop (i + 1) := by rw [List.getElem_cons_drop]; exact (List.take_append_drop i as).symm
    obtain ⟨Gt, is, tg, sub, ht, he⟩ := hb _ _ _ e1
    refine .inr ⟨go, fun H2 => ∃ F2 us, Step F1 H1 F2 H2 ∧ H2 D = some (.lst us) ∧ F2 D = none ∧ Reps K F2 (((as.take (i + 1)).filter cd).map f) us, fun H2 ⟨F2, us, p1, p2, p3, p4⟩ => ⟨as.length - (i + 1), by omega, rfl, hlt, F2, us, p1, p2, p3, p4⟩, fun x H2 y => ?_⟩
    obtain ⟨F2, t2, r2⟩ := yl x H2 y
    have tt2 := t'.trans t2
    refine tg F0 H0 F2 H2 _ x ((s1.step tt2).wipe vs) r2 _ fun σ3 s3 l3 p3 => ⟨wipe_back l3 p3 sub, ht F0 H0 F2 H2 σ3 s3 _ fun F3 H3 t3 => ?_⟩
    have e2 : as.take (i + 1) = as.take i ++ [as[i]] := (take_snoc as i hlt).symm
    have tt3 := t2.trans t3
    cases z : cd as[i] with
    | true =>
      refine iteT (he z F0 H0 F3 H3 σ3 (s3.step t3) _ fun v F4 H4 t4 r4 => ?_)
      have tt4 := tt3.trans t4
      obtain ⟨k1, k2⟩ := tt4.kp hu hf
      have hlen : us.length ≤ i := by
        rw [ru.len, List.length_map]
        refine Nat.le_trans (List.length_filter_le ..) ?_
        rw [List.length_take]
        omega
      refine ⟨us, k1, by omega, F4, us ++ [v], (t'.trans tt4).mutP hD k2, upd_same, k2, ?_⟩
      have e3 : (as.take i ++ [as[i]]).filter cd = (as.take i).filter cd ++ [as[i]] := by rw [List.filter_append]; simp [z]
      rw [e2, e3, List.map_append]
      exact (Reps.mono tt4.ff _ _ ru).app (Reps.one r4)
    | false =>
      refine iteF ?_
      obtain ⟨k1, k2⟩ := tt3.kp hu hf
      refine ⟨F3, us, t'.trans tt3, k1, k2, ?_⟩
      have e3 : (as.take i ++ [as[i]]).filter cd = (as.take i).filter cd := by rw [List.filter_append]; simp [z]
      rw [e2, e3]
      exact Reps.mono tt3.ff _ _ ru
  · have e : i = as.length := by omega
    subst e
    rw [List.take_length] at ru
    exact .inl ⟨w2 _ (by simp), q D us F' H' (t1.trans t') (t1.hh.free hD) hf hu ru⟩
theorem en_lcA {α : Type} {wi : TI} {g : TG} {vs : List Nat} {as : List α} {enc : α → D} {f : α → D} (hl : as.length ≤ sizeLine) (hi : ItD K wi G (as.map enc))
    (hb : ∀ pre x post, as = pre ++ x :: post → ∃ Gt is, TgD K g (enc x) (wipeC G vs) Gt is ∧ (∀ i ∈ is, i ∈ vs) ∧ EvD K te Gt (f x)) : EvN K (tLc wi g tYes te vs) G (as.map f) := by
  have h := en_lc (K := K) (G := G) (te := te) (tt := tYes) (wi := wi) (g := g) (vs := vs) (cd := fun _ => true) (f := f) hl hi fun pre x post e => by
    obtain ⟨Gt, is, h1, h2, h3⟩ := hb pre x post e
    exact ⟨Gt, is, h1, h2, eb_yes, fun _ => h3⟩
  have e : as.filter (fun _ => true) = as := List.filter_eq_self.mpr fun _ _ => rfl
  rw [e] at h
  exact h

theorem en_lcT {α β : Type} {wi : TI} {g : TG} {vs : List Nat} {as : List α} {enc : α → D} (eb : β → D) (f : α → β) (hl : as.length ≤ sizeLine) (hi : ItD K wi G (as.map enc))
    (hb : ∀ pre x post, as = pre ++ x :: post → ∃ Gt is, TgD K g (enc x) (wipeC G vs) Gt is ∧ (∀ i ∈ is, i ∈ vs) ∧ EvD K te Gt (eb (f x))) : EvN K (tLc wi g tYes te vs) G ((as.map f).map eb) := by
  rw [List.map_map]
  exact en_lcA (f := fun x => eb (f x)) hl hi hb
theorem en_lcF {α β : Type} {wi : TI} {g : TG} {vs : List Nat} {as : List α} {enc : α → D} (eb : β → D) (cd : α → Bool) (f : α → β) (hl : as.length ≤ sizeLine) (hi : ItD K wi G (as.map enc))
    (hb : ∀ pre x post, as = pre ++ x :: post → ∃ Gt is, TgD K g (enc x) (wipeC G vs) Gt is ∧ (∀ i ∈ is, i ∈ vs) ∧ EvB K tt Gt (cd x) ∧ (cd x = true → EvD K te Gt (eb (f x)))) : EvN K (tLc wi g tt te vs) G (((as.filter cd).map f).map eb) := by
  rw [List.map_map]
  exact en_lc (f := fun x => eb (f x)) hl hi hb

/-! ### defs -/
def spD (K : Fg) (P : List D → D → Prop) : Sp := fun vs H Q _ => ∃ F ds d, Same F H ∧ Reps K F ds vs ∧ P ds d ∧ ∀ v F' H', Step F H F' H' → Rep K F' d v → Q v H'
theorem spD_len {P : List D → D → Prop} {n : Nat} (h : ∀ ds d, P ds d → ds.length = n) : ∀ (vs : List V) (H : Hp) (Q : VK) (E : XK), spD K P vs H Q E → vs.length = n := fun vs H Q E ⟨F, ds, d, _, r, p, _⟩ => by rw [r.len, h ds d p]
/-- the slots at the start -/
def ctx0 (n : Nat) (ds : List D) : Ctx := ds.map Sl.val ++ List.replicate (n - ds.length) .un
theorem sok0 {F H : Hp} {N : List Str} {vs : List V} {ds : List D} (s : Same F H) (r : Reps K F ds vs) : SOk K F H F H (start N vs) (ctx0 N.length ds) where
  st := Step.refl s
  len := by simp [L2.start, ctx0, r.len]
  sl := fun i c e => by
    unfold ctx0 at e
    by_cases hi : i < ds.length
    · rw [List.getElem?_append_left (by simpa using hi), List.getElem?_map, List.getElem?_eq_getElem hi] at e
      cases e
      obtain ⟨v, hv, rv⟩ := r.get (List.getElem?_eq_getElem hi)
      have hv' : i < vs.length := by rw [r.len]; exact hi
      refine ⟨some v, ?_, v, rfl, rv⟩
      unfold L2.start
      rw [List.getElem?_append_left (by simpa using hv'), List.getElem?_map, hv]
      rfl
    · rw [List.getElem?_append_right (by simpa using hi)] at e
      have e' := List.mem_of_getElem? e
      have : c = .un := (List.mem_replicate.mp e').2
      subst this
      have hl := (List.getElem?_eq_some_iff.mp e).1
      rw [List.length_replicate, List.length_map] at hl
      refine ⟨none, ?_, trivial⟩
      unfold L2.start
      rw [List.getElem?_append_right (by simp [r.len]; omega), List.getElem?_replicate, if_pos (by simp [r.len]; exact hl)]
  ap := fun i j es fs a e1 _ _ _ => by
    unfold ctx0 at e1
    rcases List.mem_append.mp (List.mem_of_getElem? e1) with z | z
    · obtain ⟨d, _, q⟩ := List.mem_map.mp z
      cases q
    · have := (List.mem_replicate.mp z).2
      cases this
theorem run_def {P : List D → D → Prop} {N : List Str} (h : ∀ ds d, P ds d → StD K t (ctx0 N.length ds) (.rt d)) (vs : List V) (H : Hp) (Q : VK) (E : XK) (p : spD K P vs H Q E) : t { nx := fun _ H' => Q .non H', rt := Q } (start N vs) H := by
  obtain ⟨F, ds, d, sf, r, pd, q⟩ := p
  exact h ds d pd F H F H _ _ (sok0 sf r) fun v F' H' s _ rv => q v F' H' s rv
/-- a def that hands back nothing -/
theorem run_defN {P : List D → D → Prop} {N : List Str} (h : ∀ ds d, P ds d → d = .non ∧ ∃ G', StD K t (ctx0 N.length ds) (.nx G')) (vs : List V) (H : Hp) (Q : VK) (E : XK) (p : spD K P vs H Q E) : t { nx := fun _ H' => Q .non H', rt := Q } (start N vs) H := by
  obtain ⟨F, ds, d, sf, r, pd, q⟩ := p
  obtain ⟨rfl, G', st⟩ := h ds d pd
  exact st F H F H _ _ (sok0 sf r) fun σ F' H' s _ => q .non F' H' s.st rfl
theorem ev_call {P : List D → D → Prop} {E : XK} (h : EvA K tr G ds) (p : P ds d) : EvD K (tCall (spD K P) [] E tr) G d := fun F0 H0 F H σ s Q q => h F0 H0 F H σ s _ fun vs F1 H1 t1 r1 =>
  ⟨F1, ds, d, t1.fh, by rw [List.append_nil]; exact r1, p, fun v F2 H2 t2 r2 => q v F2 H2 (t1.trans t2) r2⟩
/-- a field of an object -/
def fieldD : List Str → List D → Str → Option D
  | n :: ns, d :: ds, f => if n = f then some d else fieldD ns ds f
  | _, _, _ => none
theorem field_get {F : Hp} {f : Str} : ∀ {ns : List Str} {ds : List D} {us : List V} {d : D}, us.length = ns.length → Reps K F ds us → fieldD ns ds f = some d → ∃ v, (ns.zip us).lookup f = some v ∧ Rep K F d v
  | [], _, _, _, _, _, h => by cases h
  | n :: ns, [], us, _, hl, r, h => by cases h
  | n :: ns, c :: ds, us, d, hl, r, h => by
    obtain ⟨u, us', rfl, r1, r2⟩ := r
    unfold fieldD at h
    rw [List.zip_cons_cons, List.lookup_cons]
    by_cases q : n = f
    · rw [if_pos q] at h
      cases h
      refine ⟨u, ?_, r1⟩
      rw [q, beq_self_eq_true]
    · rw [if_neg q] at h
      have : (f == n) = false := beq_eq_false_iff_ne.mpr fun z => q z.symm
      rw [this]
      exact field_get (by simpa using hl) r2 h
theorem ev_fld {f : Str} {C : Addr} {ns : List Str} (c : Cls K C) (n : NoAttr K C f) (hd : fieldD ns ds f = some d) (h : EvD K ta G (.ins C ns ds)) : EvD K (tFld K ta f) G d := fun F0 H0 F H σ s Q q => h F0 H0 F H σ s _ fun v F1 H1 t1 r1 => by
  obtain ⟨p, dx, us, rfl, h1, h2, h3⟩ := r1
  obtain ⟨w, hw, rw_⟩ := field_get h2 h3 hd
  exact ⟨p, C, dx, _, w, rfl, t1.fh _ _ h1, c, n, hw, q w F1 H1 t1 rw_⟩
theorem lookup_no {f : Str} : ∀ {ns : List Str} {us : List V}, f ∉ ns → (ns.zip us).lookup f = none
  | [], _, _ => rfl
  | n :: ns, [], _ => rfl
  | n :: ns, u :: us, h => by
    rw [List.zip_cons_cons, List.lookup_cons]
    have : (f == n) = false := beq_eq_false_iff_ne.mpr fun z => h (by rw [z]; exact List.mem_cons_self)
    rw [this]
    exact lookup_no fun z => h (List.mem_cons_of_mem _ z)
/-- o.m(..) -/
theorem ev_meth {m : Str} {C : Addr} {ns : List Str} {P : List D → D → Prop} {E : XK} (hm : m ∉ ns) (h : EvD K ta G (.ins C ns es)) (ha : EvA K tr G ds) (p : P (.ins C ns es :: ds) d) : EvD K (tMeth C m (spD K P) [] E ta tr) G d := fun F0 H0 F H σ s Q q => h F0 H0 F H σ s _ fun v F1 H1 t1 r1 => by
  obtain ⟨x, dx, us, rfl, h1, h2, h3⟩ := id r1
  refine ⟨x, dx, _, rfl, t1.fh _ _ h1, lookup_no hm, ha F0 H0 F1 H1 σ (s.step t1) _ fun vs F2 H2 t2 r2 => ?_⟩
  exact ⟨F2, _, d, t2.fh, by rw [List.append_nil]; exact Reps.cons (Rep.mono t2.ff _ _ r1) r2, p, fun w F3 H3 t3 r3 => q w F3 H3 ((t1.trans t2).trans t3) r3⟩
end
end Cw
set_option maxHeartbeats 4000000
namespace Cw
open PySem PySem.Spec PyProof.Rows L2
mutual
def py : D → PyData
  | .non => .none
  | .bl b => .bool b
  | .int i => .int i
  | .str x => .str x
  | .lst ds => .list (pys ds)
  | .tup ds => .tuple (pys ds)
  | .scr _ => .none
  | .ins _ _ _ => .none
def pys : List D → List PyData
  | [] => []
  | d :: ds => py d :: pys ds
end
mutual
/-- data that == walks: no objects, no texts, at most n deep -/
def okD : Nat → D → Bool
  | _, .non => true
  | _, .bl _ => true
  | _, .int _ => true
  | _, .str _ => false
  | n, .lst ds => okDs n ds
  | n, .tup ds => okDs n ds
  | _, .scr _ => false
  | _, .ins _ _ _ => false
def okDs : Nat → List D → Bool
  | 0, ds => ds.isEmpty
  | _ + 1, [] => true
  | n + 1, d :: ds => okD n d && okDs (n + 1) ds
end
mutual
theorem ok_dp {K : Fg} {F : Hp} : ∀ (n : Nat) (d : D) (v : V), okD n d = true → Rep K F d v → Dp K F v (py d)
  | _, .non, _, _, r => by cases r; exact .non
  | _, .bl b, _, _, r => by cases r; exact .bl b
  | _, .int i, _, _, r => by cases r; exact .int i
  | _, .str x, _, h, _ => by simp [okD] at h
  | n, .lst ds, _, h, r => by
    obtain ⟨a, vs, rfl, h1, h2⟩ := r
    exact .lst (.inl (.inl h1)) (ok_dps n ds vs (by simpa [okD] using h) h2)
  | n, .tup ds, _, h, r => by
    obtain ⟨a, vs, rfl, h1, h2⟩ := r
    exact .tup h1 (ok_dps n ds vs (by simpa [okD] using h) h2)
  | _, .scr _, _, h, _ => by simp [okD] at h
  | _, .ins _ _ _, _, h, _ => by simp [okD] at h
theorem ok_dps {K : Fg} {F : Hp} : ∀ (n : Nat) (ds : List D) (vs : List V), okDs n ds = true → Reps K F ds vs → DpAll K F vs (pys ds)
  | _, [], _, _, r => by cases r; exact .nil
  | 0, d :: ds, _, h, _ => by simp [okDs] at h
  | n + 1, d :: ds, _, h, r => by
    obtain ⟨v, vs, rfl, h1, h2⟩ := r
    have h' : okD n d = true ∧ okDs (n + 1) ds = true := by simpa [okDs] using h
    exact .cons (ok_dp n d v h'.1 h1) (ok_dps (n + 1) ds vs h'.2 h2)
end
mutual
theorem ok_sh : ∀ (n : Nat) (d : D), okD n d = true → (py d).canLay0 = true ∧ (py d).depth ≤ n + 1
  | n, .non, _ => ⟨rfl, Nat.zero_le _⟩
  | n, .bl b, _ => ⟨rfl, Nat.zero_le _⟩
  | n, .int i, _ => ⟨rfl, Nat.zero_le _⟩
  | _, .str x, h => by simp [okD] at h
  | n, .lst ds, h => by
    have := ok_shs n ds (by simpa [okD] using h)
    exact ⟨by simpa [py, PyData.canLay0] using this.1, by simpa [py, PyData.depth] using this.2⟩
  | n, .tup ds, h => by
    have := ok_shs n ds (by simpa [okD] using h)
    exact ⟨by simpa [py, PyData.canLay0] using this.1, by simpa [py, PyData.depth] using this.2⟩
  | _, .scr _, h => by simp [okD] at h
  | _, .ins _ _ _, h => by simp [okD] at h
theorem ok_shs : ∀ (n : Nat) (ds : List D), okDs n ds = true → PyData.canLayAll0 (pys ds) = true ∧ PyData.depthAll (pys ds) + 1 ≤ n + 1
  | n, [], _ => ⟨rfl, by simp [pys, PyData.depthAll]⟩
  | 0, d :: ds, h => by simp [okDs] at h
  | n + 1, d :: ds, h => by
    have h' : okD n d = true ∧ okDs (n + 1) ds = true := by simpa [okDs] using h
    have a := ok_sh n d h'.1
    have b := ok_shs (n + 1) ds h'.2
    refine ⟨by simp [pys, PyData.canLayAll0, a.1, b.1], ?_⟩
    simp only [pys, PyData.depthAll]
    have := a.2
    have := b.2
    omega
end
theorem ok_shaped {n : Nat} {d : D} (hn : n ≤ 60) (h : okD n d = true) : SeqAt.shaped (py d) = true := by
  obtain ⟨a, b⟩ := ok_sh n d h
  unfold SeqAt.shaped
  rw [a, Bool.true_and]
  exact decide_eq_true (by omega)
section
variable {K : Fg} {G : Ctx} {ta tb : TE} {d e : D}
theorem op_eqd (hd : okD 8 d = true) (he : okD 8 e = true) : Op2 K (rEqD K) d e (.bl (PyData.eqv (py d) (py e))) := fun F H x y s hx hy Q q =>
  ⟨py d, py e, ok_dp 8 d x hd (Rep.mono s _ _ hx), ok_dp 8 e y he (Rep.mono s _ _ hy), ok_shaped (by decide) hd, ok_shaped (by decide) he, q _ F H (Step.refl s) rfl⟩
theorem op_ned (hd : okD 8 d = true) (he : okD 8 e = true) : Op2 K (rNeD K) d e (.bl (!PyData.eqv (py d) (py e))) := fun F H x y s hx hy Q q =>
  ⟨py d, py e, ok_dp 8 d x hd (Rep.mono s _ _ hx), ok_dp 8 e y he (Rep.mono s _ _ hy), ok_shaped (by decide) hd, ok_shaped (by decide) he, q _ F H (Step.refl s) rfl⟩
/-- data of one kind: == is equality -/
structure Like {α : Type} [DecidableEq α] (enc : α → D) (k : Nat) : Prop where
  ok : ∀ a, okD k (enc a) = true
  eq : ∀ a b, PyData.eqv (py (enc a)) (py (enc b)) = decide (a = b)
theorem like_int : Like D.int 0 := ⟨fun _ => rfl, fun a b => by
  simp only [py, PyData.eqv]
  exact Bool.beq_eq_decide_eq a b⟩
theorem like_bl : Like D.bl 0 := ⟨fun _ => rfl, fun a b => by
  simp only [py, PyData.eqv]
  exact Bool.beq_eq_decide_eq a b⟩
mutual
theorem okD_mono : ∀ (d : D) (n m : Nat), n ≤ m → okD n d = true → okD m d = true
  | .non, _, _, _, _ => rfl
  | .bl b, _, _, _, _ => rfl
  | .int i, _, _, _, _ => rfl
  | .str x, _, _, _, h => by simp [okD] at h
  | .lst ds, n, m, l, h => by
    have := okDs_mono ds n m l (by simpa [okD] using h)
    simpa [okD] using this
  | .tup ds, n, m, l, h => by
    have := okDs_mono ds n m l (by simpa [okD] using h)
    simpa [okD] using this
  | .scr _, _, _, _, h => by simp [okD] at h
  | .ins _ _ _, _, _, _, h => by simp [okD] at h
theorem okDs_mono : ∀ (ds : List D) (n m : Nat), n ≤ m → okDs n ds = true → okDs m ds = true
  | [], 0, 0, _, _ => rfl
  | [], 0, _ + 1, _, _ => rfl
  | [], _ + 1, 0, l, _ => by omega
  | [], _ + 1, _ + 1, _, _ => rfl
  | d :: ds, 0, _, _, h => by simp [okDs] at h
  | d :: ds, n + 1, 0, l, h => by omega
  | d :: ds, n + 1, m + 1, l, h => by
    have h' : okD n d = true ∧ okDs (n + 1) ds = true := by simpa [okDs] using h
    have a := okD_mono d n m (by omega) h'.1
    have b := okDs_mono ds (n + 1) (m + 1) l h'.2
    simp [okDs, a, b]
end
theorem okDs_all {α : Type} {enc : α → D} {k : Nat} (h : ∀ a, okD k (enc a) = true) : ∀ as : List α, okDs (k + 1) (as.map enc) = true
  | [] => rfl
  | a :: as => by
    show okDs (k + 1) (enc a :: as.map enc) = true
    simp [okDs, h a, okDs_all h as]
abbrev lsD {α : Type} (enc : α → D) (as : List α) : D := .lst (as.map enc)
theorem like_lst {α : Type} [DecidableEq α] {enc : α → D} {k : Nat} (h : Like enc k) : Like (lsD enc) (k + 1) := by
  refine ⟨fun as => by simpa [okD] using okDs_all h.ok as, fun as => ?_⟩
  induction as with
  | nil =>
    intro bs
    cases bs with
    | nil => rfl
    | cons b bs => simp [lsD, py, pys, PyData.eqv, PyData.eqvAll]
  | cons a as ih =>
    intro bs
    cases bs with
    | nil => simp [lsD, py, pys, PyData.eqv, PyData.eqvAll]
    | cons b bs =>
      have i := ih bs
      simp only [lsD, py, PyData.eqv] at i
      simp only [lsD, py, pys, List.map_cons, PyData.eqv, PyData.eqvAll, h.eq a b, i]
      by_cases q : a = b <;> by_cases r : as = bs <;> simp [q, r]
def tpD {α β : Type} (ea : α → D) (eb : β → D) (p : α × β) : D := .tup [ea p.1, eb p.2]
theorem like_tp {α β : Type} [DecidableEq α] [DecidableEq β] {ea : α → D} {eb : β → D} {k : Nat} (h : Like ea k) (l : Like eb k) : Like (tpD ea eb) (k + 1) := by
  refine ⟨fun p => by simp [tpD, okD, okDs, h.ok, l.ok], fun p q => ?_⟩
  simp only [tpD, py, pys, PyData.eqv, PyData.eqvAll, h.eq, l.eq]
  obtain ⟨a, b⟩ := p
  obtain ⟨c, d⟩ := q
  by_cases q : a = c <;> by_cases r : b = d <;> simp [q, r]
/-- a == b of one kind; one may be looked at only -/
theorem ev_eqL {α : Type} [DecidableEq α] {enc : α → D} {k : Nat} {a b : α} (l : Like enc k) (hk : k ≤ 8) (ha : EvH K ta G (enc a)) (hb : EvH K tb G (enc b)) : EvD K (tOp (rEqD K) ta tb) G (.bl (decide (a = b))) := by
  have := ev_opS ha hb (op_eqd (okD_mono _ _ _ hk (l.ok a)) (okD_mono _ _ _ hk (l.ok b))) scal_bl
  rw [l.eq] at this
  exact this
theorem ev_neL {α : Type} [DecidableEq α] {enc : α → D} {k : Nat} {a b : α} (l : Like enc k) (hk : k ≤ 8) (ha : EvH K ta G (enc a)) (hb : EvH K tb G (enc b)) : EvD K (tOp (rNeD K) ta tb) G (.bl (!decide (a = b))) := by
  have := ev_opS ha hb (op_ned (okD_mono _ _ _ hk (l.ok a)) (okD_mono _ _ _ hk (l.ok b))) scal_bl
  rw [l.eq] at this
  exact this
end
end Cw
set_option maxHeartbeats 4000000
namespace Cw
open PySem PySem.Spec PyProof.Rows L2
/-! ### polynomials as lists of ints: the mirrors -/
/-- the number at a power -/
def cf (l : List Int) (i : Nat) : Int := l.getD i 0
/-- the list of n numbers -/
def mk (n : Nat) (f : Nat → Int) : List Int := (List.range n).map f
theorem mk_len {n : Nat} {f : Nat → Int} : (mk n f).length = n := by simp [mk]
theorem cf_mk {n : Nat} {f : Nat → Int} {i : Nat} : cf (mk n f) i = if i < n then f i else 0 := by
  unfold cf mk
  by_cases h : i < n
  · rw [if_pos h, List.getD_eq_getElem?_getD, List.getElem?_map, List.getElem?_range h]; rfl
  · rw [if_neg h, List.getD_eq_getElem?_getD, List.getElem?_eq_none (by simpa using h)]; rfl
theorem cf_out {l : List Int} {i : Nat} (h : l.length ≤ i) : cf l i = 0 := by
  unfold cf
  rw [List.getD_eq_getElem?_getD, List.getElem?_eq_none h]; rfl
theorem cf_get {l : List Int} {i : Nat} (h : i < l.length) : l[i]? = some (cf l i) := by
  unfold cf
  rw [List.getD_eq_getElem?_getD, List.getElem?_eq_getElem h]; rfl
theorem cf_map {l : List Int} {g : Int → Int} (h0 : g 0 = 0) {i : Nat} : cf (l.map g) i = g (cf l i) := by
  unfold cf
  rw [List.getD_eq_getElem?_getD, List.getD_eq_getElem?_getD, List.getElem?_map]
  cases l[i]? with
  | none => exact h0.symm
  | some x => rfl
theorem cf_set {l : List Int} {j : Nat} {x : Int} (hj : j < l.length) {i : Nat} : cf (l.set j x) i = if i = j then x else cf l i := by
  unfold cf
  rw [List.getD_eq_getElem?_getD, List.getD_eq_getElem?_getD]
  by_cases h : i = j
  · subst h
    rw [if_pos rfl, List.getElem?_set_self hj]; rfl
  · rw [if_neg h, List.getElem?_set_ne (Ne.symm h)]
theorem cf_cons0 {x : Int} {l : List Int} : cf (x :: l) 0 = x := rfl
theorem cf_consS {x : Int} {l : List Int} {i : Nat} : cf (x :: l) (i + 1) = cf l i := rfl
theorem cf_nil {i : Nat} : cf [] i = 0 := rfl
theorem cf_ext {l m : List Int} (hl : l.length = m.length) (h : ∀ i, cf l i = cf m i) : l = m := by
  apply List.ext_getElem? 
  intro i
  by_cases q : i < l.length
  · rw [cf_get q, cf_get (by omega), h]
  · rw [List.getElem?_eq_none (by omega), List.getElem?_eq_none (by omega)]
theorem cf_rep {n : Nat} {i : Nat} : cf (List.replicate n 0) i = 0 := by
  unfold cf
  rw [List.getD_eq_getElem?_getD, List.getElem?_replicate]
  split <;> rfl
theorem cf_app {l m : List Int} {i : Nat} : cf (l ++ m) i = if i < l.length then cf l i else cf m (i - l.length) := by
  unfold cf
  simp only [List.getD_eq_getElem?_getD]
  by_cases h : i < l.length
  · rw [if_pos h, List.getElem?_append_left h]
  · rw [if_neg h, List.getElem?_append_right (by omega)]
/-- without noughts at the end -/
def dropZ : List Int → List Int
  | [] => []
  | x :: xs => if dropZ xs = [] ∧ x = 0 then [] else x :: dropZ xs
def trim (p : Int) (ns : List Int) : List Int := dropZ (ns.map (· % p))
abbrev LM : Nat := 1000000
abbrev inD (ns : List Int) : D := lsD D.int ns
theorem like_ints : Like inD 1 := like_lst like_int
theorem dropZ_len (l : List Int) : (dropZ l).length ≤ l.length := by
  induction l with
  | nil => exact Nat.le_refl _
  | cons x xs ih =>
    unfold dropZ
    split
    · exact Nat.zero_le _
    · simpa using ih
theorem trim_len {p : Int} {l : List Int} : (trim p l).length ≤ l.length := by
  unfold trim
  exact Nat.le_trans (dropZ_len _) (by simp)
def lastI (l : List Int) : Int := l.getLastD 0
theorem atI_last1 {l : List D} {d : D} (h : l.getLast? = some d) : atI l (-1) = some d := by
  obtain ⟨l', rfl⟩ : ∃ l', l = l' ++ [d] := by
    rw [List.getLast?_eq_some_iff] at h
    exact h
  exact atI_last l' d
theorem at_last {l : List Int} (h : l ≠ []) : atI (l.map D.int) (-1) = some (.int (lastI l)) := by
  apply atI_last1
  rw [List.getLast?_map, List.getLast?_eq_some_getLast h]
  simp [lastI, List.getLastD_eq_getLast?, List.getLast?_eq_some_getLast h]
theorem at_int {l : List Int} {j : Int} (h0 : 0 ≤ j) (h : j < l.length) : atI (l.map D.int) j = some (.int (cf l j.toNat)) := by
  obtain ⟨k, rfl⟩ : ∃ k : Nat, j = k := ⟨j.toNat, by omega⟩
  apply atI_nat
  rw [List.getElem?_map, Int.toNat_natCast, cf_get (by omega)]
  rfl
theorem ixN_int {n : Nat} {j : Int} (h0 : 0 ≤ j) (h : j < n) : ixN n j = some j.toNat := by
  unfold ixN
  rw [if_pos h0, if_pos h]
theorem lastI_snoc {l : List Int} {x : Int} : lastI (l ++ [x]) = x := by simp [lastI, List.getLastD_eq_getLast?]
theorem snoc_of {l : List Int} (e : l ≠ []) : ∃ l' x, l = l' ++ [x] := ⟨l.dropLast, l.getLast e, (List.dropLast_concat_getLast e).symm⟩
theorem lastI_cf {l : List Int} (h : l ≠ []) : lastI l = cf l (l.length - 1) := by
  obtain ⟨l', x, rfl⟩ := snoc_of h
  rw [lastI_snoc, cf_app, if_neg (by simp), show (l' ++ [x]).length - 1 - l'.length = 0 by simp]; rfl
theorem dropZ_snoc (l : List Int) (x : Int) : dropZ (l ++ [x]) = if x = 0 then dropZ l else l ++ [x] := by
  induction l with
  | nil => by_cases h : x = 0 <;> simp [dropZ, h]
  | cons y ys ih =>
    show (if dropZ (ys ++ [x]) = [] ∧ y = 0 then [] else y :: dropZ (ys ++ [x])) = _
    rw [ih]
    by_cases h : x = 0
    · simp only [h, if_true]; rfl
    · simp [h]
theorem drop_loop (n : Nat) : ∀ l : List Int, l.length ≤ n → whileN (fun l : List Int => !decide (l = []) && decide (lastI l = 0)) List.dropLast n l = dropZ l := by
  induction n with
  | zero =>
    intro l h
    have : l = [] := List.length_eq_zero_iff.mp (by omega)
    subst this
    rfl
  | succ n ih =>
    intro l h
    show (if _ then _ else _) = _
    by_cases e : l = []
    · subst e; simp [dropZ]
    · obtain ⟨l', x, rfl⟩ := snoc_of e
      have e2 : lastI (l' ++ [x]) = x := lastI_snoc
      simp only [dropZ_snoc, e2]
      by_cases hx : x = 0
      · simp only [hx]
        simp
        exact ih l' (by simpa using h)
      · simp [hx]
/-! normal lists -/
def Nrm (p : Int) (l : List Int) : Prop := (∀ x ∈ l, 0 ≤ x ∧ x < p) ∧ (l ≠ [] → lastI l ≠ 0)
theorem nrm_nil {p : Int} : Nrm p [] := ⟨fun _ h => (List.not_mem_nil h).elim, fun h => absurd rfl h⟩
theorem dropZ_mem {l : List Int} {x : Int} (h : x ∈ dropZ l) : x ∈ l := by
  induction l with
  | nil => exact h
  | cons y ys ih =>
    unfold dropZ at h
    split at h
    · cases h
    · rcases List.mem_cons.mp h with rfl | h
      · exact List.mem_cons_self
      · exact List.mem_cons_of_mem _ (ih h)
theorem dropZ_last (l : List Int) : dropZ l ≠ [] → lastI (dropZ l) ≠ 0 := by
  induction l with
  | nil => intro h; exact absurd rfl h
  | cons y ys ih =>
    intro h
    unfold dropZ at h ⊢
    split at h
    · exact absurd rfl h
    · rename_i q
      rw [if_neg q]
      cases e : dropZ ys with
      | nil =>
        rw [e] at q
        intro z
        exact q ⟨rfl, z⟩
      | cons a as =>
        rw [e] at ih
        exact ih (by simp)
theorem trim_nrm {p : Int} (hp : 0 < p) (l : List Int) : Nrm p (trim p l) := by
  refine ⟨fun x hx => ?_, dropZ_last _⟩
  obtain ⟨y, _, rfl⟩ := List.mem_map.mp (dropZ_mem hx)
  exact ⟨Int.emod_nonneg _ (by omega), Int.emod_lt_of_pos _ hp⟩
theorem cf_dropZ (l : List Int) : ∀ i, cf (dropZ l) i = cf l i := by
  induction l with
  | nil => intro i; rfl
  | cons y ys ih =>
    intro i
    unfold dropZ
    split
    · rename_i q
      cases i with
      | zero => rw [cf_cons0, q.2]; rfl
      | succ i => rw [cf_consS, ← ih i, q.1]; rfl
    · cases i with
      | zero => rfl
      | succ i => exact ih i
theorem cf_trim {p : Int} {l : List Int} {i : Nat} : cf (trim p l) i = cf l i % p := by
  unfold trim
  rw [cf_dropZ, cf_map (by simp)]
theorem Nrm.bd {p : Int} {l : List Int} (hp : 0 < p) (h : Nrm p l) (i : Nat) : 0 ≤ cf l i ∧ cf l i < p := by
  by_cases q : i < l.length
  · exact h.1 _ (List.mem_of_getElem? (cf_get q))
  · rw [cf_out (by omega)]; omega
theorem Nrm.len_le {p : Int} {l m : List Int} (h : Nrm p l) (e : ∀ i, cf l i = cf m i) : l.length ≤ m.length := by
  by_cases q : l = []
  · subst q; exact Nat.zero_le _
  · have := h.2 q
    rw [lastI_cf q, e] at this
    apply Decidable.byContradiction
    intro z
    have hl : 0 < l.length := List.length_pos_iff.mpr q
    exact this (cf_out (by omega))
theorem Nrm.ext {p : Int} {l m : List Int} (h : Nrm p l) (k : Nrm p m) (e : ∀ i, Cw.cf l i = Cw.cf m i) : l = m :=
  cf_ext (Nat.le_antisymm (h.len_le e) (k.len_le fun i => (e i).symm)) e
theorem trim_id {p : Int} (hp : 0 < p) {l : List Int} (h : Nrm p l) : trim p l = l := (trim_nrm hp l).ext h fun i => by
  rw [cf_trim]
  exact Int.emod_eq_of_lt (h.bd hp i).1 (h.bd hp i).2
theorem trim_ext {p : Int} (hp : 0 < p) {l m : List Int} (e : ∀ i, Cw.cf l i % p = Cw.cf m i % p) : trim p l = trim p m := (trim_nrm hp l).ext (trim_nrm hp m) fun i => by
  rw [cf_trim, cf_trim, e]
def Sm (ns : List Int) : Prop := ∀ x ∈ ns, -(2 ^ 64) < x ∧ x < 2 ^ 64
theorem Nrm.sm {p : Int} {l : List Int} (h : Nrm p l) (hp : p ≤ 13) : Sm l := fun x hx => by
  have := h.1 x hx
  omega
/-! ### the mirrors -/
def padd (p : Int) (a b : List Int) : List Int := trim p (mk (max a.length b.length) fun i => cf a i + cf b i)
def pneg (p : Int) (a : List Int) : List Int := trim p (a.map fun x => 0 - x)
def psub (p : Int) (a b : List Int) : List Int := padd p a (pneg p b)
def pscl (p : Int) (a : List Int) (n : Int) : List Int := trim p (a.map fun x => x * n)
/-- x * b added from the place i on -/
def addAt (i x : Int) (b : List Int) (l : List Int) : List Int := (enumI b).foldl (fun l q => l.set (i + q.1).toNat (cf l (i + q.1).toNat + x * q.2)) l
def mulF (a b : List Int) : List Int := (enumI a).foldl (fun l q => addAt q.1 q.2 b l) (List.replicate (a.length + b.length) 0)
def pmul (p : Int) (a b : List Int) : List Int := trim p (mulF a b)
def ppow (p : Int) (a : List Int) : Nat → List Int
  | 0 => [1]
  | n + 1 => pmul p (ppow p a n) a
def pinv (p n : Int) : Int := ((rangeI 1 (p - 1).toNat).filter fun low => decide (low * n % p = 1)).headD 0
def pder (p : Int) (a : List Int) : List Int := trim p ((enumI a).map fun q => q.1 * q.2).tail
theorem padd_len {p : Int} {a b : List Int} : (padd p a b).length ≤ max a.length b.length := Nat.le_trans trim_len (by rw [mk_len]; exact Nat.le_refl _)
theorem pneg_len {p : Int} {a : List Int} : (pneg p a).length ≤ a.length := Nat.le_trans trim_len (by simp)
theorem psub_len {p : Int} {a b : List Int} : (psub p a b).length ≤ max a.length b.length := by
  have h1 := padd_len (p := p) (a := a) (b := pneg p b)
  have h2 := pneg_len (p := p) (a := b)
  unfold psub
  omega
theorem pscl_len {p : Int} {a : List Int} {n : Int} : (pscl p a n).length ≤ a.length := Nat.le_trans trim_len (by simp)
theorem foldl_len {α : Type} (g : List Int → α → List Int) (h : ∀ l x, (g l x).length = l.length) : ∀ (xs : List α) (l : List Int), (xs.foldl g l).length = l.length
  | [], l => rfl
  | x :: xs, l => by rw [List.foldl_cons, foldl_len g h xs, h]
theorem addAt_len {i x : Int} {b l : List Int} : (addAt i x b l).length = l.length := foldl_len _ (fun _ _ => by simp) _ _
theorem mulF_len {a b : List Int} : (mulF a b).length = a.length + b.length := by
  unfold mulF
  rw [foldl_len _ (fun _ _ => addAt_len)]; simp
theorem pmul_len {p : Int} {a b : List Int} : (pmul p a b).length ≤ a.length + b.length := Nat.le_trans trim_len (by rw [mulF_len]; exact Nat.le_refl _)
theorem enumI_len {α : Type} {l : List α} : (enumI l).length = l.length := by simp [enumI]
theorem pder_len {p : Int} {a : List Int} : (pder p a).length ≤ a.length := Nat.le_trans trim_len (by simp [enumI_len])
end Cw
set_option maxHeartbeats 4000000
namespace Cw
open PySem PySem.Spec PyProof.Rows L2
section
variable {K : Fg} {G : Ctx} {te ta tb tc : TE} {tt tu : TT} {tr : TA} {t u r : TS} {d e : D}
theorem LMs {n : Nat} (h : n ≤ 10 * LM) : n ≤ sizeLine := Nat.le_trans h (by decide)
theorem mem_mid {α : Type} {as pre post : List α} {x : α} (e : as = pre ++ x :: post) : x ∈ as := by rw [e]; simp
abbrev rLenB (K : Fg) : List V → Hp → VK → Prop := fun xs H Q => ∃ p ys, xs = [V.ref p] ∧ (SqL K H p ys ∨ SqT K H p ys) ∧ Q (.int ys.length) H
theorem ev_lenL {α : Type} {enc : α → D} {as : List α} (h : EvH K ta G (lsD enc as)) : EvD K (tCB (fun xs H Q => ∃ p ys, xs = [V.ref p] ∧ (SqL K H p ys ∨ SqT K H p ys) ∧ Q (.int ys.length) H) (tCons ta tNil)) G (.int as.length) := by
  have := ev_len h
  rw [List.length_map] at this
  exact this
theorem en_catT {α : Type} {enc : α → D} {as bs : List α} (hl : as.length + bs.length ≤ 10 * LM) (ha : EvD K ta G (lsD enc as)) (hb : EvD K tb G (lsD enc bs)) : EvN K (tOp rCat ta tb) G ((as ++ bs).map enc) := by
  rw [List.map_append]
  exact en_cat (by rw [List.length_map, List.length_map]; exact LMs hl) ha hb
theorem en_repT {α : Type} {enc : α → D} {x : α} {n : Int} (hn : n ≤ 10 * LM ∧ -(2 ^ 63) ≤ n) (ha : EvD K ta G (lsD enc [x])) (hb : EvD K tb G (.int n)) : EvN K (tOp rRep ta tb) G ((List.replicate n.toNat x).map enc) := by
  rw [List.map_replicate]
  refine en_rep1 ⟨?_, hn.2⟩ ha hb
  have : (10 * LM : Int) ≤ (sizeLine : Int) := by decide
  omega
theorem ev_max {i j : Int} (ha : EvD K ta G (.int i)) (hb : EvD K tb G (.int j)) : EvD K (tCB (fun xs H Q => ∃ i j, xs = [V.int i, V.int j] ∧ Q (.int (if j > i then j else i)) H) (tCons ta (tCons tb tNil))) G (.int (max i j)) := ev_cb (ea_cons ha (ea_cons hb ea_nil)) oa_max
theorem ev_min {i j : Int} (ha : EvD K ta G (.int i)) (hb : EvD K tb G (.int j)) : EvD K (tCB (fun xs H Q => ∃ i j, xs = [V.int i, V.int j] ∧ Q (.int (if j < i then j else i)) H) (tCons ta (tCons tb tNil))) G (.int (min i j)) := ev_cb (ea_cons ha (ea_cons hb ea_nil)) oa_min
theorem ev_intc {i : Int} (ha : EvD K ta G (.int i)) : EvD K (tCB (fun xs H Q => (∃ i, xs = [V.int i] ∧ Q (.int i) H) ∨ ∃ k, xs = [V.bl k] ∧ Q (.int (if k then 1 else 0)) H) (tCons ta tNil)) G (.int i) := ev_cb (ea_cons ha ea_nil) oa_int
theorem ev_ixI {l : List Int} {j : Int} (h0 : 0 ≤ j) (h : j < l.length) (ha : EvD K ta G (inD l)) (hb : EvD K tb G (.int j)) : EvD K (tOp (rIxL K) ta tb) G (.int (cf l j.toNat)) := ev_ixL (at_int h0 h) ha hb
theorem ev_ixIO {l : List Int} {i : Nat} {j : Int} (hi : G[i]? = some (.own (l.map D.int))) (h0 : 0 ≤ j) (h : j < l.length) (hb : EvD K tb G (.int j)) : EvD K (tOp (rIxL K) (tVar i) tb) G (.int (cf l j.toNat)) := ev_ixO hi (at_int h0 h) hb
theorem ev_ixN {l : List Int} (h : l ≠ []) (ha : EvD K ta G (inD l)) (hb : EvD K tb G (.int (-1))) : EvD K (tOp (rIxL K) ta tb) G (.int (lastI l)) := ev_ixL (at_last h) ha hb
theorem ev_m1 : EvD K (tUn (rU fun i => V.int (-i)) (tC (V.int 1))) G (.int (-1)) := ev_neg ev_int
/-- an item of a tuple of two, of three .. -/
theorem ev_tix {xs : List D} {j : Nat} (h : xs[j]? = some d) (ha : EvD K ta G (.tup xs)) : EvD K (tOp (rIxT K) ta (tC (V.int (j : Int)))) G d := ev_ixT (atI_nat h) ha ev_int
theorem ev_tix0 {a : D} {xs : List D} (ha : EvD K ta G (.tup (a :: xs))) : EvD K (tOp (rIxT K) ta (tC (V.int 0))) G a := ev_tix (j := 0) rfl ha
theorem ev_tix1 {a b : D} {xs : List D} (ha : EvD K ta G (.tup (a :: b :: xs))) : EvD K (tOp (rIxT K) ta (tC (V.int 1))) G b := ev_tix (j := 1) rfl ha
theorem ev_tix2 {a b c : D} {xs : List D} (ha : EvD K ta G (.tup (a :: b :: c :: xs))) : EvD K (tOp (rIxT K) ta (tC (V.int 2))) G c := ev_tix (j := 2) rfl ha
theorem rangeI_map {β : Type} {n : Nat} {f : Int → β} : (rangeI 0 n).map f = (List.range n).map fun (k : Nat) => f (k : Int) := by
  unfold rangeI
  rw [List.map_map]
  apply List.map_congr_left
  intro k _
  show f (0 + (k : Int)) = _
  rw [Int.zero_add]
theorem ea1 (h : EvD K te G d) : EvA K (tCons te tNil) G [d] := ea_cons h ea_nil
theorem ea2 {a b : D} (h : EvD K ta G a) (k : EvD K tb G b) : EvA K (tCons ta (tCons tb tNil)) G [a, b] := ea_cons h (ea1 k)
theorem ea3 {a b c : D} (h : EvD K ta G a) (k : EvD K tb G b) (l : EvD K tc G c) : EvA K (tCons ta (tCons tb (tCons tc tNil))) G [a, b, c] := ea_cons h (ea2 k l)
theorem ea4 {a b c : D} (h : EvD K ta G a) (k : EvD K tb G b) (l : EvD K tc G c) (m : EvD K te G d) : EvA K (tCons ta (tCons tb (tCons tc (tCons te tNil)))) G [a, b, c, d] := ea_cons h (ea3 k l m)
theorem en_lst0 : EvN K (tLst tNil) G [] := en_lst ea_nil (by decide)
theorem en_lst1 (h : EvD K te G d) : EvN K (tLst (tCons te tNil)) G [d] := en_lst (ea1 h) (by show 1 ≤ sizeLine; decide)
/-- x != [], x == [] of lists of ints, looked at -/
theorem ev_ne0 {l : List Int} (h : EvH K ta G (inD l)) : EvD K (tOp (rNeD K) ta (tLst tNil)) G (.bl (!decide (l = []))) := ev_neL (b := []) like_ints (by decide) h (eh_pub en_lst0)
theorem ev_eq0 {l : List Int} (h : EvH K ta G (inD l)) : EvD K (tOp (rEqD K) ta (tLst tNil)) G (.bl (decide (l = []))) := ev_eqL (b := []) like_ints (by decide) h (eh_pub en_lst0)
theorem ev_eqI1 {l : List Int} {x : Int} (h : EvH K ta G (inD l)) : EvD K (tOp (rEqD K) ta (tLst (tCons (tC (.int x)) tNil))) G (.bl (decide (l = [x]))) := ev_eqL (b := [x]) like_ints (by decide) h (eh_pub (en_lst1 ev_int))
theorem st_popI {i : Nat} {l : List Int} (hi : G[i]? = some (.own (l.map D.int))) (hl : l ≠ []) : StD K (tDrop (tBM0 K "list" rPop (tVar i))) G (.nx (G.set i (.own (l.dropLast.map D.int)))) := by
  rw [List.map_dropLast]
  exact st_pop hi (by simpa using hl)
theorem st_setL {i : Nat} {l : List Int} {j x : Int} {tj : TE} (hi : G[i]? = some (.own (l.map D.int))) (h0 : 0 ≤ j) (hl : j < l.length) (h : EvD K te G (.int x)) (hj : EvD K tj G (.int j)) : StD K (tAsg te (gSub (tVar i) tj rSetL)) G (.nx (G.set i (.own ((l.set j.toNat x).map D.int)))) := by
  rw [List.map_set]
  exact st_setI hi (ixN_int h0 (by rw [List.length_map]; exact hl)) h hj
theorem st_appT {α : Type} {enc : α → D} {i : Nat} {l : List α} {x : α} (hi : G[i]? = some (.own (l.map enc))) (hl : l.length ≤ LM) (h : EvD K te G (enc x)) : StD K (tDrop (tBM K "list" rAppend (tVar i) (tCons te tNil))) G (.nx (G.set i (.own ((l ++ [x]).map enc)))) := by
  rw [List.map_append]
  exact st_app hi (by rw [List.length_map]; exact Nat.lt_of_le_of_lt hl (by decide)) h
end
/-! ### the primes -/
def Pm (p : Int) : Prop := p = 3 ∨ p = 5 ∨ p = 7 ∨ p = 11 ∨ p = 13
theorem Pm.pos {p : Int} (h : Pm p) : 0 < p := by rcases h with rfl | rfl | rfl | rfl | rfl <;> decide
theorem Pm.le {p : Int} (h : Pm p) : p ≤ 13 := by rcases h with rfl | rfl | rfl | rfl | rfl <;> decide
theorem Pm.ge {p : Int} (h : Pm p) : 3 ≤ p := by rcases h with rfl | rfl | rfl | rfl | rfl <;> decide
/-! ### what the defs do -/
def p_trimmed (ds : List D) (d : D) : Prop := ∃ p ns, ds = [.int p, inD ns] ∧ 0 < p ∧ ns.length ≤ 2 * LM ∧ d = inD (trim p ns)
def p_negated (ds : List D) (d : D) : Prop := ∃ p a, ds = [.int p, inD a] ∧ 0 < p ∧ a.length ≤ LM ∧ d = inD (pneg p a)
def p_added (ds : List D) (d : D) : Prop := ∃ p a b, ds = [.int p, inD a, inD b] ∧ 0 < p ∧ a.length ≤ LM ∧ b.length ≤ LM ∧ d = inD (padd p a b)
def p_lessened (ds : List D) (d : D) : Prop := ∃ p a b, ds = [.int p, inD a, inD b] ∧ 0 < p ∧ a.length ≤ LM ∧ b.length ≤ LM ∧ d = inD (psub p a b)
def p_scaled (ds : List D) (d : D) : Prop := ∃ p a n, ds = [.int p, inD a, .int n] ∧ 0 < p ∧ a.length ≤ LM ∧ (-(2 ^ 64) < n ∧ n < 2 ^ 64) ∧ d = inD (pscl p a n)
def p_multiplied (ds : List D) (d : D) : Prop := ∃ p a b, ds = [.int p, inD a, inD b] ∧ 0 < p ∧ a.length ≤ LM ∧ b.length ≤ LM ∧ Sm a ∧ d = inD (pmul p a b)
def p_power_of (ds : List D) (d : D) : Prop := ∃ p a n, ds = [.int p, inD a, .int n] ∧ 0 < p ∧ p ≤ 13 ∧ 0 ≤ n ∧ n ≤ 1000 ∧ n.toNat * a.length ≤ 500000 ∧ a.length ≤ 500000 ∧ d = inD (ppow p a n.toNat)
def p_inverse (ds : List D) (d : D) : Prop := ∃ p n, ds = [.int p, .int n] ∧ Pm p ∧ n % p ≠ 0 ∧ (-(2 ^ 64) < n ∧ n < 2 ^ 64) ∧ d = .int (pinv p n)
def p_slope_of (ds : List D) (d : D) : Prop := ∃ p a, ds = [.int p, inD a] ∧ 0 < p ∧ a.length ≤ LM ∧ d = inD (pder p a)
end Cw
namespace Cw
open PySem PySem.Spec PyProof.Rows L2
theorem enumI_mem {α : Type} {l : List α} {i : Int} {x : α} (h : (i, x) ∈ enumI l) : 0 ≤ i ∧ i < l.length ∧ x ∈ l := by
  unfold enumI at h
  obtain ⟨k, hk⟩ := List.getElem?_of_mem h
  rw [List.getElem?_mapIdx] at hk
  cases e : l[k]? with
  | none => rw [e] at hk; cases hk
  | some y =>
    rw [e] at hk
    have hk' : ((k : Int), y) = (i, x) := Option.some.inj hk
    cases hk'
    have := (List.getElem?_eq_some_iff.mp e).1
    exact ⟨by omega, by omega, List.mem_of_getElem? e⟩
theorem foldl_count {α : Type} : ∀ (l : List α) (n : Nat), l.foldl (fun (k : Nat) (_ : α) => k + 1) n = n + l.length
  | [], n => rfl
  | a :: l, n => by rw [List.foldl_cons, foldl_count l, List.length_cons]; omega
theorem ppow_len {p : Int} {a : List Int} {n : Nat} : (ppow p a n).length ≤ n * a.length + 1 := by
  induction n with
  | zero => simp [ppow]
  | succ n ih =>
    have := pmul_len (p := p) (a := ppow p a n) (b := a)
    unfold ppow
    rw [Nat.succ_mul]
    omega
theorem Sm.of {l : List Int} (h : ∀ x ∈ l, 0 ≤ x ∧ x ≤ 13) : Sm l := fun x hx => by
  have := h x hx
  omega
theorem ppow_sm {p : Int} {a : List Int} {n : Nat} (hp : 0 < p) (hp2 : p ≤ 13) : Sm (ppow p a n) := by
  cases n with
  | zero => exact Sm.of fun x hx => by simp [ppow] at hx; omega
  | succ n => exact (trim_nrm hp _).sm hp2
theorem inv_ne {p n : Int} (hp : Pm p) (hn : n % p ≠ 0) : ((rangeI 1 (p - 1).toNat).filter fun low => decide (low * n % p = 1)) ≠ [] := by
  have key : ∀ r : Int, 0 ≤ r → r < p → r ≠ 0 → ∃ low ∈ rangeI 1 (p - 1).toNat, low * r % p = 1 := by
    intro r h0 h1 h2
    have h3 : r = 1 ∨ r = 2 ∨ r = 3 ∨ r = 4 ∨ r = 5 ∨ r = 6 ∨ r = 7 ∨ r = 8 ∨ r = 9 ∨ r = 10 ∨ r = 11 ∨ r = 12 := by
      have := hp.le
      omega
    rcases hp with rfl | rfl | rfl | rfl | rfl <;> rcases h3 with rfl | rfl | rfl | rfl | rfl | rfl | rfl | rfl | rfl | rfl | rfl | rfl <;> first
      | omega
      | decide
  obtain ⟨low, hm, hl⟩ := key (n % p) (Int.emod_nonneg _ (by have := hp.pos; omega)) (Int.emod_lt_of_pos _ hp.pos) hn
  intro z
  have : low ∈ (rangeI 1 (p - 1).toNat).filter fun low => decide (low * n % p = 1) := by
    rw [List.mem_filter]
    refine ⟨hm, decide_eq_true ?_⟩
    rw [Int.mul_emod, Int.emod_emod_of_dvd _ (Int.dvd_refl p), ← Int.mul_emod] at hl
    first
      | exact hl
      | (rw [← hl, Int.mul_emod, Int.mul_emod low (n % p), Int.emod_emod_of_dvd _ (Int.dvd_refl p)])
  rw [z] at this
  cases this
theorem cut_tail (l : List Int) : cutD (l.map D.int) (some 1) none = (l.tail).map D.int := by
  unfold cutD
  rw [show HT.sIx (l.map D.int).length 0 (some 1) = min 1 (l.map D.int).length from HT.sIx_nat _ 0 1, HT.sIx_none]
  cases l with
  | nil => rfl
  | cons x r =>
    rw [show min 1 (List.map D.int (x :: r)).length = 1 by simp]
    show (List.take ((x :: r).map D.int |>.length).pred _) = _
    simp
    exact List.take_of_length_le (by simp)
end Cw
set_option maxHeartbeats 4000000
namespace Cw
open PySem PySem.Spec PyProof.Rows L2
theorem snoc_ind {α : Type} {P : List α → Prop} (h0 : P []) (hs : ∀ l x, P l → P (l ++ [x])) : ∀ l, P l := fun l => by
  have key : ∀ (n : Nat) (l : List α), l.length = n → P l := by
    intro n
    induction n with
    | zero => intro l h; rw [List.length_eq_zero_iff.mp h]; exact h0
    | succ n ih =>
      intro l h
      have hne : l ≠ [] := by intro z; rw [z] at h; cases h
      rw [← List.dropLast_concat_getLast hne]
      exact hs _ _ (ih _ (by rw [List.length_dropLast]; omega))
  exact key _ l rfl
theorem enumI_snoc {α : Type} (l : List α) (x : α) : enumI (l ++ [x]) = enumI l ++ [((l.length : Int), x)] := by
  unfold enumI
  rw [List.mapIdx_append]
  simp
theorem cf_snoc {l : List Int} {x : Int} {i : Nat} : cf (l ++ [x]) i = if i = l.length then x else cf l i := by
  rw [cf_app]
  by_cases h : i < l.length
  · rw [if_pos h, if_neg (by omega)]
  · rw [if_neg h]
    by_cases h2 : i = l.length
    · rw [if_pos h2, h2, Nat.sub_self]; rfl
    · rw [if_neg h2, cf_out (show l.length ≤ i by omega), cf_out (by simp; omega)]
/-! ### the product -/
theorem cf_addAt {i : Nat} {x : Int} : ∀ (b l : List Int), i + b.length ≤ l.length → ∀ k, cf (addAt i x b l) k = cf l k + if i ≤ k then x * cf b (k - i) else 0 := by
  intro b
  induction b using snoc_ind with
  | h0 =>
    intro l _ k
    show cf l k = _
    rw [cf_nil]
    split <;> omega
  | hs b y ih =>
    intro l hl k
    rw [List.length_append, List.length_singleton] at hl
    have e : addAt i x (b ++ [y]) l = (addAt i x b l).set (i + b.length) (cf (addAt i x b l) (i + b.length) + x * y) := by
      unfold addAt
      rw [enumI_snoc, List.foldl_append]
      simp only [List.foldl_cons, List.foldl_nil]
      rw [show ((i : Int) + (b.length : Int)).toNat = i + b.length by omega]
    rw [e, cf_set (by rw [addAt_len]; omega), ih l (by omega), ih l (by omega)]
    by_cases hk : k = i + b.length
    · subst hk
      rw [if_pos rfl, if_pos (by omega), if_pos (by omega), show i + b.length - i = b.length by omega, cf_snoc, if_pos rfl, cf_out (Nat.le_refl _)]
      omega
    · rw [if_neg hk]
      by_cases h : i ≤ k
      · rw [if_pos h, if_pos h, cf_snoc, if_neg (by omega)]
      · rw [if_neg h, if_neg h]
/-- sums -/
def sm (n : Nat) (f : Nat → Int) : Int := ((List.range n).map f).sum
theorem sm_zero {f : Nat → Int} : sm 0 f = 0 := rfl
theorem sm_succ {n : Nat} {f : Nat → Int} : sm (n + 1) f = sm n f + f n := by
  unfold sm
  rw [List.range_succ, List.map_append, List.sum_append]
  simp
theorem sm_congr {n : Nat} {f g : Nat → Int} (h : ∀ i, i < n → f i = g i) : sm n f = sm n g := by
  induction n with
  | zero => rfl
  | succ n ih => rw [sm_succ, sm_succ, ih (fun i hi => h i (by omega)), h n (by omega)]
theorem sm_zeros {n : Nat} {f : Nat → Int} (h : ∀ i, i < n → f i = 0) : sm n f = 0 := by
  induction n with
  | zero => rfl
  | succ n ih => rw [sm_succ, ih (fun i hi => h i (by omega)), h n (by omega)]; rfl
theorem sm_ext {n m : Nat} {f : Nat → Int} (h : ∀ i, n ≤ i → f i = 0) (hm : n ≤ m) : sm m f = sm n f := by
  induction m with
  | zero => rw [show n = 0 by omega]
  | succ m ih =>
    by_cases q : n = m + 1
    · rw [q]
    · rw [sm_succ, h m (by omega), ih (by omega)]; omega
def conv (a b : List Int) (k : Nat) : Int := sm (k + 1) fun i => cf a i * cf b (k - i)
theorem cf_mulG (b : List Int) (n : Nat) : ∀ a : List Int, a.length + b.length ≤ n → ∀ k, cf ((enumI a).foldl (fun l q => addAt q.1 q.2 b l) (List.replicate n 0)) k = sm a.length fun i => if i ≤ k then cf a i * cf b (k - i) else 0 := by
  intro a
  induction a using snoc_ind with
  | h0 => intro _ k; exact cf_rep
  | hs a x ih =>
    intro hn k
    rw [List.length_append, List.length_singleton] at hn
    rw [enumI_snoc, List.foldl_append]
    simp only [List.foldl_cons, List.foldl_nil]
    have hl : ((enumI a).foldl (fun l q => addAt q.1 q.2 b l) (List.replicate n 0)).length = n := by
      rw [foldl_len _ (fun _ _ => addAt_len)]; simp
    rw [cf_addAt _ _ (by rw [hl]; omega), ih (by omega), List.length_append, List.length_singleton, sm_succ]
    congr 1
    · apply sm_congr
      intro i hi
      simp only [cf_snoc, if_neg (show ¬ i = a.length by omega)]
    · rw [cf_snoc, if_pos rfl]
theorem cf_mulF {a b : List Int} {k : Nat} : cf (mulF a b) k = conv a b k := by
  unfold mulF conv
  rw [cf_mulG b _ a (Nat.le_refl _)]
  by_cases h : a.length ≤ k + 1
  · rw [sm_ext (n := a.length) (m := k + 1) (f := fun i => cf a i * cf b (k - i)) (fun i hi => by rw [cf_out hi, Int.zero_mul]) h]
    apply sm_congr
    intro i hi
    rw [if_pos (by omega)]
  · rw [sm_ext (n := k + 1) (m := a.length) (f := fun i => if i ≤ k then cf a i * cf b (k - i) else 0) (fun i hi => if_neg (by omega)) (by omega)]
    apply sm_congr
    intro i hi
    rw [if_pos (by omega)]
theorem cf_pmul {p : Int} {a b : List Int} {k : Nat} : cf (pmul p a b) k = conv a b k % p := by
  unfold pmul
  rw [cf_trim, cf_mulF]
theorem conv_out {a b : List Int} {k : Nat} (h : a.length + b.length ≤ k + 1) : conv a b k = 0 := by
  apply sm_zeros
  intro i hi
  by_cases q : a.length ≤ i
  · rw [cf_out q, Int.zero_mul]
  · rw [cf_out (show b.length ≤ k - i by omega), Int.mul_zero]
theorem len_of_cf {l : List Int} {p : Int} {n : Nat} (h : Nrm p l) (z : ∀ k, n ≤ k → cf l k = 0) : l.length ≤ n := by
  by_cases q : l = []
  · subst q; exact Nat.zero_le _
  · have := h.2 q
    rw [lastI_cf q] at this
    apply Decidable.byContradiction
    intro w
    exact this (z _ (by omega))
theorem pmul_len2 {p : Int} (hp : 0 < p) {a b : List Int} : (pmul p a b).length ≤ a.length + b.length - 1 := len_of_cf (trim_nrm hp _) fun k hk => by
  rw [cf_pmul, conv_out (by omega)]; simp
theorem pmul_nil {p : Int} {b : List Int} : pmul p [] b = [] := by
  unfold pmul trim
  have : ∀ k, cf (mulF [] b) k = 0 := fun k => by rw [cf_mulF]; exact sm_zeros fun i _ => by rw [cf_nil, Int.zero_mul]
  have h : ∀ l : List Int, (∀ k, cf l k = 0) → dropZ (l.map (· % p)) = [] := by
    intro l
    induction l with
    | nil => intro _; rfl
    | cons x xs ih =>
      intro h
      show (if _ then _ else _) = _
      have h0 : x = 0 := h 0
      rw [if_pos ⟨ih fun k => h (k + 1), by rw [h0]; simp⟩]
  exact h _ this
/-! ### division -/
def subAt (p at_ number : Int) (b l : List Int) : List Int := (enumI b).foldl (fun l q => l.set (at_ + q.1).toNat ((cf l (at_ + q.1).toNat - number * q.2) % p)) l
def divStep (p back : Int) (b : List Int) (s : List Int × List Int) (at_ : Int) : List Int × List Int :=
  (subAt p at_ (cf s.1 (at_ + b.length - 1).toNat * back % p) b s.1, s.2.set at_.toNat (cf s.1 (at_ + b.length - 1).toNat * back % p))
def divF (p : Int) (a b : List Int) : List Int × List Int :=
  (rangeC ((a.length : Int) - b.length) (-1) ((a.length : Int) - b.length - (-1)).toNat).foldl (divStep p (pinv p (lastI b)) b) (a, List.replicate (max ((a.length : Int) - b.length + 1) 0).toNat 0)
def pquo (p : Int) (a b : List Int) : List Int := trim p (divF p a b).2
def prem (p : Int) (a b : List Int) : List Int := trim p (divF p a b).1
theorem subAt_len {p i n : Int} {b l : List Int} : (subAt p i n b l).length = l.length := foldl_len _ (fun _ _ => by simp) _ _
theorem divG_len {p back : Int} {b : List Int} : ∀ (xs : List Int) (s : List Int × List Int), (xs.foldl (divStep p back b) s).1.length = s.1.length ∧ (xs.foldl (divStep p back b) s).2.length = s.2.length
  | [], s => ⟨rfl, rfl⟩
  | x :: xs, s => by
    rw [List.foldl_cons]
    obtain ⟨h1, h2⟩ := divG_len xs (divStep p back b s x)
    rw [h1, h2]
    exact ⟨subAt_len, by simp [divStep]⟩
theorem pquo_len {p : Int} {a b : List Int} : (pquo p a b).length ≤ a.length + 1 - b.length := Nat.le_trans trim_len (by
  unfold divF
  rw [(divG_len _ _).2, List.length_replicate]
  omega)
theorem prem_len {p : Int} {a b : List Int} : (prem p a b).length ≤ a.length := Nat.le_trans trim_len (by
  unfold divF
  rw [(divG_len _ _).1]
  exact Nat.le_refl _)
def p_parted (ds : List D) (d : D) : Prop := ∃ p a b, ds = [.int p, inD a, inD b] ∧ Pm p ∧ a.length ≤ LM ∧ b.length ≤ LM ∧ b ≠ [] ∧ Nrm p b ∧ d = .tup [inD (pquo p a b), inD (prem p a b)]
def p_whole_part (ds : List D) (d : D) : Prop := ∃ p a b, ds = [.int p, inD a, inD b] ∧ Pm p ∧ a.length ≤ LM ∧ b.length ≤ LM ∧ b ≠ [] ∧ Nrm p b ∧ d = inD (pquo p a b)
def p_rest_of (ds : List D) (d : D) : Prop := ∃ p a b, ds = [.int p, inD a, inD b] ∧ Pm p ∧ a.length ≤ LM ∧ b.length ≤ LM ∧ b ≠ [] ∧ Nrm p b ∧ d = inD (prem p a b)
theorem lastI_mem {l : List Int} (h : l ≠ []) : lastI l ∈ l := by
  obtain ⟨l', x, rfl⟩ := snoc_of h
  rw [lastI_snoc]
  simp
theorem Nrm.lst {p : Int} {l : List Int} (h : Nrm p l) (q : l ≠ []) : 0 < lastI l ∧ lastI l < p := by
  have h1 := h.1 _ (lastI_mem q)
  have h2 := h.2 q
  omega
theorem rangeC_mem {lo : Int} {n : Nat} {x : Int} (h : x ∈ rangeC lo (-1) n) : x ≤ lo ∧ lo - n < x := by
  obtain ⟨k, hk, rfl⟩ := List.mem_map.mp h
  have := List.mem_range.mp hk
  omega
theorem pinv_mem {p n : Int} (hp : Pm p) (hn : n % p ≠ 0) : 1 ≤ pinv p n ∧ pinv p n < p ∧ pinv p n * n % p = 1 := by
  have h := inv_ne hp hn
  unfold pinv
  cases e : ((rangeI 1 (p - 1).toNat).filter fun low => decide (low * n % p = 1)) with
  | nil => exact absurd e h
  | cons x xs =>
    have hx : x ∈ (rangeI 1 (p - 1).toNat).filter fun low => decide (low * n % p = 1) := by rw [e]; exact List.mem_cons_self
    obtain ⟨h1, h2⟩ := List.mem_filter.mp hx
    have h3 := rangeI_mem h1
    have := hp.ge
    exact ⟨h3.1, by show x < p; omega, of_decide_eq_true h2⟩
end Cw
set_option maxHeartbeats 4000000
namespace Cw
open Lean.Grind
/-! ### numbers modulo p -/
def zmS (p : Int) : Setoid Int := ⟨fun a b => a % p = b % p, ⟨fun _ => rfl, fun h => h.symm, fun h k => h.trans k⟩⟩
def ZM (p : Int) : Type := Quotient (zmS p)
namespace ZM
variable {p : Int}
def mk (p : Int) (a : Int) : ZM p := Quotient.mk (zmS p) a
theorem sound {a b : Int} (h : a % p = b % p) : mk p a = mk p b := Quotient.sound (s := zmS p) h
theorem exact {a b : Int} (h : mk p a = mk p b) : a % p = b % p := Quotient.exact (s := zmS p) h
theorem ind {P : ZM p → Prop} (h : ∀ a, P (mk p a)) (x : ZM p) : P x := Quotient.ind (s := zmS p) h x
theorem ind2 {P : ZM p → ZM p → Prop} (h : ∀ a b, P (mk p a) (mk p b)) (x y : ZM p) : P x y := ind (P := fun x => P x y) (fun a => ind (P := fun y => P (mk p a) y) (fun b => h a b) y) x
theorem ind3 {P : ZM p → ZM p → ZM p → Prop} (h : ∀ a b c, P (mk p a) (mk p b) (mk p c)) (x y z : ZM p) : P x y z := ind (P := fun x => P x y z) (fun a => ind2 (P := fun y z => P (mk p a) y z) (fun b c => h a b c) y z) x
def add (x y : ZM p) : ZM p := Quotient.liftOn₂ (s₁ := zmS p) (s₂ := zmS p) x y (fun a b => mk p (a + b)) fun a b c d h k => sound (by rw [Int.add_emod, show a % p = c % p from h, show b % p = d % p from k, ← Int.add_emod])
def mul (x y : ZM p) : ZM p := Quotient.liftOn₂ (s₁ := zmS p) (s₂ := zmS p) x y (fun a b => mk p (a * b)) fun a b c d h k => sound (by rw [Int.mul_emod, show a % p = c % p from h, show b % p = d % p from k, ← Int.mul_emod])
theorem neg_mod {a b : Int} (h : a % p = b % p) : (-a) % p = (-b) % p := by
  have : (0 - a) % p = (0 - b) % p := by rw [Int.sub_emod, h, ← Int.sub_emod]
  simpa using this
def neg (x : ZM p) : ZM p := Quotient.liftOn (s := zmS p) x (fun a => mk p (-a)) fun a b h => sound (neg_mod h)
instance : Add (ZM p) := ⟨add⟩
instance : Mul (ZM p) := ⟨mul⟩
instance : Neg (ZM p) := ⟨neg⟩
instance : Sub (ZM p) := ⟨fun x y => x + -y⟩
instance : NatCast (ZM p) := ⟨fun n => mk p n⟩
instance : IntCast (ZM p) := ⟨fun n => mk p n⟩
instance instOfNatZ (n : Nat) : OfNat (ZM p) n := ⟨mk p n⟩
instance : SMul Nat (ZM p) := ⟨fun n x => mk p n * x⟩
instance : SMul Int (ZM p) := ⟨fun n x => mk p n * x⟩
def pow (x : ZM p) : Nat → ZM p
  | 0 => mk p 1
  | n + 1 => pow x n * x
instance : HPow (ZM p) Nat (ZM p) := ⟨pow⟩
theorem mk_add (a b : Int) : mk p a + mk p b = mk p (a + b) := rfl
theorem mk_mul (a b : Int) : mk p a * mk p b = mk p (a * b) := rfl
theorem mk_neg (a : Int) : -mk p a = mk p (-a) := rfl
theorem mk_sub (a b : Int) : mk p a - mk p b = mk p (a - b) := by rw [Int.sub_eq_add_neg]; rfl
theorem mk_zero : mk p 0 = 0 := rfl
theorem mk_one : mk p 1 = 1 := rfl
instance : CommRing (ZM p) where
  add_zero := ind fun a => congrArg (mk p) (Int.add_zero a)
  add_comm := ind2 fun a b => congrArg (mk p) (Int.add_comm a b)
  add_assoc := ind3 fun a b c => congrArg (mk p) (Int.add_assoc a b c)
  mul_assoc := ind3 fun a b c => congrArg (mk p) (Int.mul_assoc a b c)
  mul_one := ind fun a => congrArg (mk p) (Int.mul_one a)
  one_mul := ind fun a => congrArg (mk p) (Int.one_mul a)
  left_distrib := ind3 fun a b c => congrArg (mk p) (Int.mul_add a b c)
  right_distrib := ind3 fun a b c => congrArg (mk p) (Int.add_mul a b c)
  zero_mul := ind fun a => congrArg (mk p) (Int.zero_mul a)
  mul_zero := ind fun a => congrArg (mk p) (Int.mul_zero a)
  mul_comm := ind2 fun a b => congrArg (mk p) (Int.mul_comm a b)
  pow_zero := fun _ => rfl
  pow_succ := fun _ _ => rfl
  ofNat_succ := fun n => congrArg (mk p) (by show ((n + 1 : Nat) : Int) = (n : Int) + 1; omega)
  ofNat_eq_natCast := fun _ => rfl
  nsmul_eq_natCast_mul := fun _ _ => rfl
  neg_add_cancel := ind fun a => congrArg (mk p) (Int.add_left_neg a)
  sub_eq_add_neg := fun _ _ => rfl
  neg_zsmul := fun i => ind fun a => congrArg (mk p) (Int.neg_mul i a)
  zsmul_natCast_eq_nsmul := fun _ _ => rfl
  intCast_ofNat := fun _ => rfl
  intCast_neg := fun _ => rfl
theorem mod_mk {a : Int} : mk p (a % p) = mk p a := sound (Int.emod_emod_of_dvd _ (Int.dvd_refl p))
theorem eq_zero {a : Int} : mk p a = 0 ↔ a % p = 0 := ⟨fun h => by have := exact (b := 0) h; simpa using this, fun h => sound (by rw [h]; simp)⟩
theorem self_zero : mk p p = 0 := eq_zero.mpr (Int.emod_self)
end ZM
/-! ### series -/
def PS (R : Type) : Type := Nat → R
namespace PS
section
variable {R : Type} [CommRing R]
def nc (n : Nat) : R := (Semiring.natCast (α := R)).natCast n
def zc (n : Int) : R := (Ring.intCast (α := R)).intCast n
def sh (f : PS R) : PS R := fun n => f (n + 1)
def mulR (f g : PS R) : Nat → R
  | 0 => f 0 * g 0
  | n + 1 => f 0 * g (n + 1) + mulR (sh f) g n
def C (c : R) : PS R := fun n => if n = 0 then c else 0
instance : Add (PS R) := ⟨fun f g n => f n + g n⟩
instance : Mul (PS R) := ⟨fun f g n => mulR f g n⟩
instance : Neg (PS R) := ⟨fun f n => -f n⟩
instance : Sub (PS R) := ⟨fun f g n => f n - g n⟩
instance : NatCast (PS R) := ⟨fun n => C (nc n)⟩
instance : IntCast (PS R) := ⟨fun n => C (zc n)⟩
instance instOfNatP (n : Nat) : OfNat (PS R) n := ⟨C (OfNat.ofNat n)⟩
instance : SMul Nat (PS R) := ⟨fun n f => C (nc n) * f⟩
instance : SMul Int (PS R) := ⟨fun n f => C (zc n) * f⟩
def pow (f : PS R) : Nat → PS R
  | 0 => C 1
  | n + 1 => pow f n * f
instance : HPow (PS R) Nat (PS R) := ⟨pow⟩
theorem add_at (f g : PS R) (n : Nat) : (f + g) n = f n + g n := rfl
theorem sub_at (f g : PS R) (n : Nat) : (f - g) n = f n - g n := rfl
theorem neg_at (f : PS R) (n : Nat) : (-f) n = -f n := rfl
theorem mul_at0 (f g : PS R) : (f * g) 0 = f 0 * g 0 := rfl
theorem mul_atS (f g : PS R) (n : Nat) : (f * g) (n + 1) = f 0 * g (n + 1) + (sh f * g) n := rfl
theorem sh_at (f : PS R) (n : Nat) : sh f n = f (n + 1) := rfl
theorem C_0 (c : R) : C c 0 = c := rfl
theorem C_S (c : R) (n : Nat) : C c (n + 1) = 0 := rfl
theorem zero_at (n : Nat) : (0 : PS R) n = 0 := by
  show C (0 : R) n = 0
  cases n <;> rfl
theorem one_at (n : Nat) : (1 : PS R) n = if n = 0 then 1 else 0 := rfl
theorem ext {f g : PS R} (h : ∀ n, f n = g n) : f = g := funext h
theorem mul_atS' : ∀ (n : Nat) (f g : PS R), (f * g) (n + 1) = f (n + 1) * g 0 + (f * sh g) n
  | 0, f, g => by
    rw [mul_atS, mul_at0, mul_at0, sh_at, sh_at]
    grind
  | n + 1, f, g => by
    rw [mul_atS, mul_atS' n (sh f) g, mul_atS]
    rw [sh_at, sh_at]
    grind
theorem mul_comm' : ∀ (n : Nat) (f g : PS R), (f * g) n = (g * f) n
  | 0, f, g => by rw [mul_at0, mul_at0]; grind
  | n + 1, f, g => by rw [mul_atS, mul_atS', mul_comm' n]; grind
theorem add_mul' : ∀ (n : Nat) (f g h : PS R), ((f + g) * h) n = (f * h) n + (g * h) n
  | 0, f, g, h => by rw [mul_at0, mul_at0, mul_at0, add_at]; grind
  | n + 1, f, g, h => by
    rw [mul_atS, mul_atS, mul_atS, add_at, show sh (f + g) = sh f + sh g from rfl, add_mul' n]
    grind
theorem C_mul : ∀ (n : Nat) (c : R) (f : PS R), (C c * f) n = c * f n
  | 0, c, f => rfl
  | n + 1, c, f => by
    rw [mul_atS, C_0, show sh (C c) = C (0 : R) from funext fun n => by cases n <;> rfl, C_mul n]
    grind
theorem mul_assoc' : ∀ (n : Nat) (f g h : PS R), ((f * g) * h) n = (f * (g * h)) n
  | 0, f, g, h => by rw [mul_at0, mul_at0, mul_at0, mul_at0]; grind
  | n + 1, f, g, h => by
    have e : sh (f * g) = C (f 0) * sh g + sh f * g := funext fun k => by rw [sh_at, mul_atS, add_at, C_mul]; rfl
    rw [mul_atS, e, add_mul', mul_assoc' n (sh f) g h, mul_assoc' n (C (f 0)) (sh g) h, C_mul, mul_at0, mul_atS f, mul_atS g h]
    grind
instance : CommRing (PS R) where
  add_zero := fun a => ext fun n => by rw [add_at, zero_at]; grind
  add_comm := fun a b => ext fun n => by rw [add_at, add_at]; grind
  add_assoc := fun a b c => ext fun n => by rw [add_at, add_at, add_at, add_at]; grind
  mul_assoc := fun a b c => ext fun n => mul_assoc' n a b c
  mul_one := fun a => ext fun n => by rw [mul_comm']; show ((C 1 : PS R) * a) n = a n; rw [C_mul]; grind
  one_mul := fun a => ext fun n => by show ((C 1 : PS R) * a) n = a n; rw [C_mul]; grind
  left_distrib := fun a b c => ext fun n => by rw [mul_comm', add_mul', add_at, mul_comm' n b, mul_comm' n c]
  right_distrib := fun a b c => ext fun n => add_mul' n a b c
  zero_mul := fun a => ext fun n => by show ((C 0 : PS R) * a) n = _; rw [C_mul, zero_at]; grind
  mul_zero := fun a => ext fun n => by rw [mul_comm']; show ((C 0 : PS R) * a) n = _; rw [C_mul, zero_at]; grind
  mul_comm := fun a b => ext fun n => mul_comm' n a b
  pow_zero := fun _ => rfl
  pow_succ := fun _ _ => rfl
  ofNat_succ := fun n => ext fun k => by
    show C (OfNat.ofNat (n + 1) : R) k = C (OfNat.ofNat n : R) k + C (1 : R) k
    cases k with
    | zero => exact Semiring.ofNat_succ n
    | succ k => show (0 : R) = 0 + 0; grind
  ofNat_eq_natCast := fun n => ext fun k => by
    show C (OfNat.ofNat n : R) k = C (nc n) k
    rw [Semiring.ofNat_eq_natCast]
    rfl
  nsmul_eq_natCast_mul := fun _ _ => rfl
  neg_add_cancel := fun a => ext fun n => by rw [add_at, neg_at, zero_at]; grind
  sub_eq_add_neg := fun a b => ext fun n => by rw [add_at, neg_at, sub_at]; grind
  neg_zsmul := fun i a => ext fun n => by
    show ((C (zc (-i)) : PS R) * a) n = -(((C (zc i) : PS R) * a) n)
    rw [C_mul, C_mul, show (zc (-i) : R) = -zc i from Ring.intCast_neg i]; grind
  zsmul_natCast_eq_nsmul := fun n a => ext fun k => by
    show ((C (zc (n : Int)) : PS R) * a) k = ((C (nc n) : PS R) * a) k
    rw [show (zc (n : Int) : R) = nc n from Ring.intCast_natCast n]
  intCast_ofNat := fun n => ext fun k => by
    show C (zc (OfNat.ofNat n : Int)) k = C (OfNat.ofNat n : R) k
    rw [show (zc (OfNat.ofNat n : Int) : R) = OfNat.ofNat n from Ring.intCast_ofNat n]
  intCast_neg := fun i => ext fun k => by
    show C (zc (-i)) k = -(C (zc i : R) k)
    rw [show (zc (-i) : R) = -zc i from Ring.intCast_neg i]
    cases k with
    | zero => rfl
    | succ k => show (0 : R) = -0; grind
end
end PS
end Cw
set_option maxHeartbeats 4000000
namespace Cw
open Lean.Grind
abbrev PZ (p : Int) : Type := PS (ZM p)
def ps (p : Int) (l : List Int) : PZ p := fun i => ZM.mk p (cf l i)
namespace PS
section
variable {R : Type} [CommRing R]
/-- the i-th power of x -/
def X (i : Nat) : PS R := fun n => if n = i then 1 else 0
theorem X_zero : (X 0 : PS R) = 1 := rfl
theorem X_mul : ∀ (i : Nat) (g : PS R) (k : Nat), ((X i : PS R) * g) k = if i ≤ k then g (k - i) else 0
  | 0, g, k => by
    rw [X_zero, show (1 : PS R) * g = g by grind, if_pos (Nat.zero_le _)]
    rfl
  | i + 1, g, 0 => by
    rw [mul_at0, if_neg (by omega)]
    show (if 0 = i + 1 then (1 : R) else 0) * g 0 = 0
    rw [if_neg (by omega)]
    grind
  | i + 1, g, k + 1 => by
    have e : sh (X (i + 1) : PS R) = X i := funext fun n => by
      show (if n + 1 = i + 1 then (1 : R) else 0) = if n = i then 1 else 0
      by_cases h : n = i
      · rw [if_pos h, if_pos (by omega)]
      · rw [if_neg h, if_neg (by omega)]
    rw [mul_atS, e, X_mul i g k]
    have z : (X (i + 1) : PS R) 0 = 0 := if_neg (by omega)
    rw [z]
    by_cases h : i ≤ k
    · rw [if_pos h, if_pos (by omega), show k + 1 - (i + 1) = k - i by omega]; grind
    · rw [if_neg h, if_neg (by omega)]; grind
theorem C_add (a b : R) : (C (a + b) : PS R) = C a + C b := ext fun n => by
  rw [add_at]
  cases n with
  | zero => rfl
  | succ n => show (0 : R) = 0 + 0; grind
theorem C_mulC (a b : R) : (C (a * b) : PS R) = C a * C b := ext fun n => by
  rw [C_mul]
  cases n with
  | zero => rfl
  | succ n => show (0 : R) = a * 0; grind
theorem C_one : (C 1 : PS R) = 1 := rfl
theorem C_zero : (C 0 : PS R) = 0 := rfl
theorem C_neg (a : R) : (C (-a) : PS R) = -C a := ext fun n => by
  rw [neg_at]
  cases n with
  | zero => rfl
  | succ n => show (0 : R) = -0; grind
theorem X_add (i j : Nat) : (X i * X j : PS R) = X (i + j) := ext fun n => by
  rw [X_mul]
  show (if i ≤ n then (if n - i = j then (1 : R) else 0) else 0) = if n = i + j then 1 else 0
  by_cases h : n = i + j
  · rw [if_pos h, if_pos (by omega), if_pos (by omega)]
  · rw [if_neg h]
    by_cases q : i ≤ n
    · rw [if_pos q, if_neg (by omega)]
    · rw [if_neg q]
/-- nought from the power n on -/
def Lt (n : Nat) (f : PS R) : Prop := ∀ k, n ≤ k → f k = 0
end
end PS
section
variable {p : Int}
theorem ps_at (l : List Int) (i : Nat) : ps p l i = ZM.mk p (cf l i) := rfl
theorem ps_trim {l : List Int} : ps p (trim p l) = ps p l := PS.ext fun n => by
  rw [ps_at, ps_at, cf_trim, ZM.mod_mk]
theorem ps_nil : ps p [] = 0 := PS.ext fun n => by rw [PS.zero_at]; rfl
theorem ps_one : ps p [1] = 1 := PS.ext fun n => by
  rw [PS.one_at]
  cases n with
  | zero => rfl
  | succ n => rfl
theorem ps_inj (hp : 0 < p) {a b : List Int} (ha : Nrm p a) (hb : Nrm p b) (h : ps p a = ps p b) : a = b := ha.ext hb fun i => by
  have e : ZM.mk p (cf a i) = ZM.mk p (cf b i) := congrFun h i
  have e2 := ZM.exact e
  rw [Int.emod_eq_of_lt (ha.bd hp i).1 (ha.bd hp i).2, Int.emod_eq_of_lt (hb.bd hp i).1 (hb.bd hp i).2] at e2
  exact e2
theorem ps_lt {l : List Int} : PS.Lt l.length (ps p l) := fun k hk => by rw [ps_at, cf_out hk]; rfl
theorem len_lt (hp : 0 < p) {l : List Int} (h : Nrm p l) {n : Nat} (z : PS.Lt n (ps p l)) : l.length ≤ n := len_of_cf h fun k hk => by
  have e := ZM.eq_zero.mp (z k hk)
  rwa [Int.emod_eq_of_lt (h.bd hp k).1 (h.bd hp k).2] at e
theorem ps_padd {a b : List Int} : ps p (padd p a b) = ps p a + ps p b := PS.ext fun n => by
  unfold padd
  rw [ps_trim, PS.add_at, ps_at, ps_at, ps_at, ZM.mk_add, cf_mk]
  by_cases h : n < max a.length b.length
  · rw [if_pos h]
  · rw [if_neg h, cf_out (show a.length ≤ n by omega), cf_out (show b.length ≤ n by omega)]; rfl
theorem ps_pneg {a : List Int} : ps p (pneg p a) = -ps p a := PS.ext fun n => by
  unfold pneg
  rw [ps_trim, PS.neg_at, ps_at, ps_at, ZM.mk_neg, cf_map (by simp), Int.zero_sub]
theorem ps_psub {a b : List Int} : ps p (psub p a b) = ps p a - ps p b := by
  unfold psub
  rw [ps_padd, ps_pneg]; grind
theorem ps_pscl {a : List Int} {n : Int} : ps p (pscl p a n) = PS.C (ZM.mk p n) * ps p a := PS.ext fun k => by
  unfold pscl
  rw [ps_trim, PS.C_mul, ps_at, ps_at, ZM.mk_mul, cf_map (by simp), Int.mul_comm]
theorem sm_first {n : Nat} {f : Nat → Int} : sm (n + 1) f = f 0 + sm n fun i => f (i + 1) := by
  induction n with
  | zero => rw [sm_succ, sm_zero, sm_zero]; omega
  | succ n ih => rw [sm_succ, ih, sm_succ]; omega
def up (p : Int) (f : Nat → Int) : PZ p := fun i => ZM.mk p (f i)
theorem mk_conv : ∀ (k : Nat) (f g : Nat → Int), ZM.mk p (sm (k + 1) fun i => f i * g (k - i)) = (up p f * up p g) k
  | 0, f, g => by rw [sm_succ, sm_zero, PS.mul_at0, Int.zero_add]; rfl
  | k + 1, f, g => by
    have ih := mk_conv k (fun i => f (i + 1)) g
    rw [sm_first, PS.mul_atS, ← ZM.mk_add]
    have e : (sm (k + 1) fun i => f (i + 1) * g (k + 1 - (i + 1))) = sm (k + 1) fun i => f (i + 1) * g (k - i) := sm_congr fun i hi => by rw [show k + 1 - (i + 1) = k - i by omega]
    rw [e, ih]
    rfl
theorem ps_pmul {a b : List Int} : ps p (pmul p a b) = ps p a * ps p b := PS.ext fun k => by
  rw [ps_at, cf_pmul, ZM.mod_mk]
  exact mk_conv k (cf a) (cf b)
theorem pz_set {l : List Int} {i : Nat} {n : Int} (hi : i < l.length) (h0 : cf l i = 0) : ps p (l.set i n) = ps p l + PS.C (ZM.mk p n) * PS.X i := PS.ext fun k => by
  rw [ps_at, cf_set hi, PS.add_at, PS.C_mul, ps_at]
  show _ = ZM.mk p (cf l k) + ZM.mk p n * (if k = i then 1 else 0)
  by_cases h : k = i
  · subst h
    rw [if_pos rfl, if_pos rfl, h0]
    have : ZM.mk p 0 = 0 := rfl
    grind
  · rw [if_neg h, if_neg h]; grind
theorem cf_subAt {i : Nat} {n : Int} : ∀ (b l : List Int), i + b.length ≤ l.length → ∀ k, cf (subAt p i n b l) k % p = (cf l k - if i ≤ k then n * cf b (k - i) else 0) % p := by
  intro b
  induction b using snoc_ind with
  | h0 =>
    intro l _ k
    show cf l k % p = _
    rw [cf_nil]
    congr 1
    split <;> omega
  | hs b y ih =>
    intro l hl k
    rw [List.length_append, List.length_singleton] at hl
    have e : subAt p i n (b ++ [y]) l = (subAt p i n b l).set (i + b.length) ((cf (subAt p i n b l) (i + b.length) - n * y) % p) := by
      unfold subAt
      rw [enumI_snoc, List.foldl_append]
      simp only [List.foldl_cons, List.foldl_nil]
      rw [show ((i : Int) + (b.length : Int)).toNat = i + b.length by omega]
    rw [e, cf_set (by rw [subAt_len]; omega)]
    by_cases hk : k = i + b.length
    · subst hk
      rw [if_pos rfl, Int.emod_emod_of_dvd _ (Int.dvd_refl p), if_pos (by omega), show i + b.length - i = b.length by omega, cf_snoc, if_pos rfl]
      have := ih l (by omega) (i + b.length)
      rw [if_pos (by omega), show i + b.length - i = b.length by omega, cf_out (Nat.le_refl b.length), Int.mul_zero, Int.sub_zero] at this
      rw [Int.sub_emod, this, ← Int.sub_emod]
    · rw [if_neg hk, ih l (by omega)]
      by_cases h : i ≤ k
      · rw [if_pos h, if_pos h, cf_snoc, if_neg (by omega)]
      · rw [if_neg h, if_neg h]
theorem ps_subAt {i : Nat} {n : Int} {b l : List Int} (h : i + b.length ≤ l.length) : ps p (subAt p i n b l) = ps p l - PS.C (ZM.mk p n) * (PS.X i * ps p b) := PS.ext fun k => by
  rw [ps_at, PS.sub_at, PS.C_mul, PS.X_mul, ps_at, ps_at, ZM.sound (cf_subAt b l h k), ← ZM.mk_sub]
  by_cases q : i ≤ k
  · rw [if_pos q, if_pos q, ZM.mk_mul]
  · rw [if_neg q, if_neg q, ZM.mk_zero]; grind
theorem rangeC_succ {lo c : Int} {n : Nat} : rangeC lo c (n + 1) = rangeC lo c n ++ [lo + (n : Int) * c] := by
  unfold rangeC
  rw [List.range_succ, List.map_append]
  rfl
/-- the long division -/
theorem div_inv (hp : Pm p) {a b : List Int} (hb : b ≠ []) (nb : Nrm p b) (t : Nat) (ht : (t : Int) ≤ (a.length : Int) - b.length + 1) :
    let s := (rangeC ((a.length : Int) - b.length) (-1) t).foldl (divStep p (pinv p (lastI b)) b) (a, List.replicate (max ((a.length : Int) - b.length + 1) 0).toNat 0)
    ps p a = ps p s.2 * ps p b + ps p s.1 ∧ PS.Lt (a.length - t) (ps p s.1) ∧ ∀ i : Nat, (i : Int) ≤ (a.length : Int) - b.length - t → cf s.2 i = 0 := by
  induction t with
  | zero =>
    refine ⟨?_, ?_, fun i _ => cf_rep⟩
    · show ps p a = ps p (List.replicate _ 0) * ps p b + ps p a
      have : ps p (List.replicate (max ((a.length : Int) - b.length + 1) 0).toNat 0) = 0 := PS.ext fun n => by rw [ps_at, cf_rep, PS.zero_at]; rfl
      rw [this]; grind
    · exact fun k hk => ps_lt (l := a) k (by omega)
  | succ t ih =>
    obtain ⟨h1, h2, h3⟩ := ih (by omega)
    have hg := divG_len (p := p) (back := pinv p (lastI b)) (b := b) (rangeC ((a.length : Int) - b.length) (-1) t) (a, List.replicate (max ((a.length : Int) - b.length + 1) 0).toNat 0)
    rw [rangeC_succ, List.foldl_append]
    generalize hs : (rangeC ((a.length : Int) - b.length) (-1) t).foldl (divStep p (pinv p (lastI b)) b) (a, List.replicate (max ((a.length : Int) - b.length + 1) 0).toNat 0) = s at *
    obtain ⟨r, q⟩ := s
    simp only [List.length_replicate] at hg
    have hbl := List.length_pos_iff.mpr hb
    obtain ⟨at_, hat⟩ : ∃ at_ : Nat, (a.length : Int) - b.length + (t : Int) * (-1) = at_ := ⟨((a.length : Int) - b.length + (t : Int) * (-1)).toNat, by omega⟩
    rw [hat]
    simp only [List.foldl_cons, List.foldl_nil, divStep]
    rw [show ((at_ : Int) + b.length - 1).toNat = at_ + b.length - 1 by omega, show (at_ : Int).toNat = at_ by omega]
    have e1 := ps_subAt (p := p) (i := at_) (n := cf r (at_ + b.length - 1) * pinv p (lastI b) % p) (b := b) (l := r) (by omega)
    have e2 := pz_set (p := p) (l := q) (i := at_) (n := cf r (at_ + b.length - 1) * pinv p (lastI b) % p) (by omega) (h3 at_ (by omega))
    have hl0 := nb.lst hb
    have hinv := pinv_mem hp (n := lastI b) (by rw [Int.emod_eq_of_lt (by omega) (by omega)]; omega)
    rw [e1, e2]
    refine ⟨?_, fun k hk => ?_, fun i hi => ?_⟩
    · simp only at h1
      rw [h1]; grind
    · rw [PS.sub_at, PS.C_mul, PS.X_mul, if_pos (by omega)]
      by_cases hk2 : a.length - t ≤ k
      · have z1 : ps p r k = 0 := h2 k hk2
        rw [z1, show ps p b (k - at_) = 0 from ps_lt _ (by omega)]; grind
      · have ek : k = at_ + b.length - 1 := by omega
        subst ek
        rw [show at_ + b.length - 1 - at_ = b.length - 1 by omega, ps_at, ps_at, ← lastI_cf hb, ZM.mod_mk, ← ZM.mk_mul]
        have hl : ZM.mk p (pinv p (lastI b)) * ZM.mk p (lastI b) = 1 := by
          rw [ZM.mk_mul]
          exact ZM.sound (by rw [hinv.2.2]; exact (Int.emod_eq_of_lt (by omega) (by have := hp.ge; omega)).symm)
        grind
    · rw [cf_set (by omega), if_neg (by omega)]
      exact h3 i (by omega)
theorem prem_nrm (hp : 0 < p) {a b : List Int} : Nrm p (prem p a b) := trim_nrm hp _
theorem pquo_nrm (hp : 0 < p) {a b : List Int} : Nrm p (pquo p a b) := trim_nrm hp _
theorem div_eq (hp : Pm p) {a b : List Int} (hb : b ≠ []) (nb : Nrm p b) : ps p a = ps p (pquo p a b) * ps p b + ps p (prem p a b) ∧ (prem p a b).length < b.length := by
  have hbl := List.length_pos_iff.mpr hb
  unfold pquo prem
  rw [ps_trim, ps_trim]
  by_cases h : b.length ≤ a.length
  · have := div_inv hp (a := a) hb nb ((a.length : Int) - b.length - (-1)).toNat (by omega)
    obtain ⟨h1, h2, h3⟩ := this
    refine ⟨h1, ?_⟩
    have := len_lt hp.pos (trim_nrm hp.pos (divF p a b).1) (n := b.length - 1) (by
      rw [ps_trim]
      exact fun k hk => h2 k (by omega))
    omega
  · have e : ((a.length : Int) - b.length - (-1)).toNat = 0 := by omega
    have e2 : divF p a b = (a, []) := by
      unfold divF
      rw [e, show (max ((a.length : Int) - b.length + 1) 0).toNat = 0 by omega]
      rfl
    rw [e2]
    refine ⟨?_, ?_⟩
    · rw [ps_nil]; grind
    · exact Nat.lt_of_le_of_lt trim_len (by show a.length < _; omega)
end
end Cw
set_option maxHeartbeats 4000000
namespace Cw
open PySem PySem.Spec PyProof.Rows L2
/-! ### the common factor -/
abbrev Tri : Type := List Int × List Int × List Int
def triD (t : Tri) : D := .tup [inD t.1, inD t.2.1, inD t.2.2]
def egStep (p : Int) (s : Tri × Tri) : Tri × Tri := (s.2, (prem p s.1.1 s.2.1, psub p s.1.2.1 (pmul p (pquo p s.1.1 s.2.1) s.2.2.1), psub p s.1.2.2 (pmul p (pquo p s.1.1 s.2.1) s.2.2.2)))
def egC (s : Tri × Tri) : Bool := !decide (s.2.1 = [])
def eg0 (a b : List Int) : Tri × Tri := ((a, [1], []), (b, [], [1]))
def egF (p : Int) (a b : List Int) : Tri × Tri := whileN egC (egStep p) b.length (eg0 a b)
def pgcd3 (p : Int) (a b : List Int) : Tri :=
  if (egF p a b).1.1 = [] then ([], [], []) else
    (pscl p (egF p a b).1.1 (pinv p (lastI (egF p a b).1.1)), pscl p (egF p a b).1.2.1 (pinv p (lastI (egF p a b).1.1)), pscl p (egF p a b).1.2.2 (pinv p (lastI (egF p a b).1.1)))
def pgcd (p : Int) (a b : List Int) : List Int := (pgcd3 p a b).1
/-- lengths and normality while it runs -/
structure EgI (p : Int) (B : Nat) (s : Tri × Tri) : Prop where
  n1 : Nrm p s.1.1
  n2 : Nrm p s.2.1
  a1 : s.2.2.1.length + s.1.1.length ≤ B
  a2 : s.2.2.2.length + s.1.1.length ≤ B
  c1 : s.1.2.1.length + s.2.1.length ≤ B
  c2 : s.1.2.2.length + s.2.1.length ≤ B
  m1 : ∀ x ∈ s.1.2.1, 0 ≤ x ∧ x < p
  m2 : ∀ x ∈ s.1.2.2, 0 ≤ x ∧ x < p
  m3 : ∀ x ∈ s.2.2.1, 0 ≤ x ∧ x < p
  m4 : ∀ x ∈ s.2.2.2, 0 ≤ x ∧ x < p
theorem eg_start {p : Int} (hp : Pm p) {a b : List Int} (ha : Nrm p a) (hb : Nrm p b) : EgI p (a.length + b.length + 1) (eg0 a b) := by
  have := hp.ge
  refine ⟨ha, hb, ?_, ?_, ?_, ?_, ?_, ?_, ?_, ?_⟩ <;> simp [eg0] <;> omega
theorem eg_len {p : Int} (hp : 0 < p) {B l h : Nat} {x y q : List Int} (hq : q.length ≤ l + 1 - h) (hy : y.length + l ≤ B) (hx : x.length + h ≤ B) (h0 : 0 < h) : (psub p x (pmul p q y)).length + h ≤ B := by
  have h1 := psub_len (p := p) (a := x) (b := pmul p q y)
  by_cases e : q = []
  · subst e
    rw [pmul_nil] at h1 ⊢
    simp only [List.length_nil, Nat.max_zero] at h1
    omega
  · have h2 := pmul_len2 hp (a := q) (b := y)
    have h3 := List.length_pos_iff.mpr e
    omega
theorem eg_turn {p : Int} (hp : Pm p) {B : Nat} {s : Tri × Tri} (i : EgI p B s) (h : egC s = true) : EgI p B (egStep p s) ∧ (egStep p s).2.1.length < s.2.1.length := by
  have hne : s.2.1 ≠ [] := by simpa [egC] using h
  have hl := List.length_pos_iff.mpr hne
  have hd := (div_eq hp (a := s.1.1) hne i.n2).2
  have hr := prem_len (p := p) (a := s.1.1) (b := s.2.1)
  have hq := pquo_len (p := p) (a := s.1.1) (b := s.2.1)
  have i1 := i.a1
  have i2 := i.a2
  refine ⟨⟨i.n2, prem_nrm hp.pos, ?_, ?_, ?_, ?_, i.m3, i.m4, ?_, ?_⟩, hd⟩
  · exact eg_len hp.pos hq i.a1 i.c1 hl
  · exact eg_len hp.pos hq i.a2 i.c2 hl
  · show s.2.2.1.length + (prem p s.1.1 s.2.1).length ≤ B
    omega
  · show s.2.2.2.length + (prem p s.1.1 s.2.1).length ≤ B
    omega
  · exact fun x hx => (trim_nrm hp.pos _).1 x hx
  · exact fun x hx => (trim_nrm hp.pos _).1 x hx
theorem while_inv {S : Type} {c : S → Bool} {f : S → S} {Iv : S → Prop} {μ : S → Nat} (h : ∀ s, Iv s → c s = true → Iv (f s) ∧ μ (f s) < μ s) : ∀ (n : Nat) (s : S), Iv s → μ s ≤ n → Iv (whileN c f n s) ∧ c (whileN c f n s) = false
  | 0, s, i, hn => ⟨i, by
    cases e : c s with
    | false => exact e
    | true => have := (h s i e).2; omega⟩
  | n + 1, s, i, hn => by
    show Iv (if c s = true then whileN c f n (f s) else s) ∧ c (if c s = true then whileN c f n (f s) else s) = false
    cases e : c s with
    | false => rw [if_neg Bool.false_ne_true]; exact ⟨i, e⟩
    | true =>
      rw [if_pos rfl]
      obtain ⟨h1, h2⟩ := h s i e
      exact while_inv h n (f s) h1 (by omega)
def p_common_with (ds : List D) (d : D) : Prop := ∃ p a b, ds = [.int p, inD a, inD b] ∧ Pm p ∧ a.length + b.length + 1 ≤ LM ∧ Nrm p a ∧ Nrm p b ∧ d = triD (pgcd3 p a b)
def p_common_of (ds : List D) (d : D) : Prop := ∃ p a b, ds = [.int p, inD a, inD b] ∧ Pm p ∧ a.length + b.length + 1 ≤ LM ∧ Nrm p a ∧ Nrm p b ∧ d = inD (pgcd p a b)
end Cw
set_option maxHeartbeats 4000000
namespace Cw
open Lean.Grind
/-! ### a field, a domain -/
theorem ZM.inv {p : Int} (hp : Pm p) (x : ZM p) (h : x ≠ 0) : ∃ y, x * y = 1 := by
  revert h
  refine ZM.ind (P := fun x => x ≠ 0 → ∃ y, x * y = 1) (fun a h => ?_) x
  have hn : a % p ≠ 0 := fun z => h (ZM.eq_zero.mpr z)
  obtain ⟨h1, h2, h3⟩ := pinv_mem hp hn
  refine ⟨ZM.mk p (pinv p a), ?_⟩
  rw [ZM.mk_mul, Int.mul_comm]
  exact ZM.sound (by rw [h3]; exact (Int.emod_eq_of_lt (by omega) (by have := hp.ge; omega)).symm)
theorem ZM.dom {p : Int} (hp : Pm p) {x y : ZM p} (h : x * y = 0) : x = 0 ∨ y = 0 := by
  by_cases hx : x = 0
  · exact .inl hx
  · obtain ⟨z, hz⟩ := ZM.inv hp x hx
    refine .inr ?_
    have : y = z * (x * y) := by grind
    rw [this, h]; grind
theorem ZM.one_ne {p : Int} (hp : Pm p) : (1 : ZM p) ≠ 0 := by
  intro z
  have := ZM.eq_zero.mp (show ZM.mk p 1 = 0 from z)
  have := hp.ge
  rw [Int.emod_eq_of_lt (by omega) (by omega)] at *
  omega
namespace PS
section
variable {R : Type} [CommRing R]
theorem mul_low : ∀ (i j : Nat) (f g : PS R), (∀ k, k < i → f k = 0) → (∀ k, k < j → g k = 0) → (f * g) (i + j) = f i * g j
  | 0, 0, f, g, _, _ => by rw [Nat.zero_add, mul_at0]
  | 0, j + 1, f, g, hf, hg => by
    have ih := mul_low 0 j f (sh g) hf fun k hk => hg (k + 1) (by omega)
    rw [Nat.zero_add] at ih ⊢
    rw [mul_atS', hg 0 (by omega), ih, sh_at]; grind
  | i + 1, j, f, g, hf, hg => by
    have ih := mul_low i j (sh f) g (fun k hk => hf (k + 1) (by omega)) hg
    rw [show i + 1 + j = (i + j) + 1 by omega, mul_atS, hf 0 (by omega), ih, sh_at]; grind
theorem low_of {f : PS R} (h : f ≠ 0) : ∃ i, f i ≠ 0 ∧ ∀ k, k < i → f k = 0 := by
  have : ∃ n, f n ≠ 0 := Classical.byContradiction fun z => h (ext fun n => by
    rw [zero_at]
    exact Classical.byContradiction fun w => z ⟨n, w⟩)
  obtain ⟨n, hn⟩ := this
  have key : ∀ (n : Nat), f n ≠ 0 → ∃ i, f i ≠ 0 ∧ ∀ k, k < i → f k = 0 := by
    intro n
    induction n using Nat.strongRecOn with
    | ind n ih =>
      intro hn
      by_cases q : ∃ k, k < n ∧ f k ≠ 0
      · obtain ⟨k, hk, hf⟩ := q
        exact ih k hk hf
      · exact ⟨n, hn, fun k hk => Classical.byContradiction fun w => q ⟨k, hk, w⟩⟩
  exact key n hn
end
theorem dom {p : Int} (hp : Pm p) {f g : PS (ZM p)} (h : f * g = 0) : f = 0 ∨ g = 0 := by
  by_cases hf : f = 0
  · exact .inl hf
  · refine .inr (Classical.byContradiction fun hg => ?_)
    obtain ⟨i, hi, hi2⟩ := low_of hf
    obtain ⟨j, hj, hj2⟩ := low_of hg
    have := mul_low i j f g hi2 hj2
    rw [h, zero_at] at this
    rcases ZM.dom hp this.symm with z | z
    · exact hi z
    · exact hj z
theorem cancel {p : Int} (hp : Pm p) {f g c : PS (ZM p)} (hc : c ≠ 0) (h : f * c = g * c) : f = g := by
  have : (f - g) * c = 0 := by grind
  rcases dom hp this with z | z
  · grind
  · exact absurd z hc
theorem one_ne {p : Int} (hp : Pm p) : (1 : PS (ZM p)) ≠ 0 := fun h => ZM.one_ne hp (congrFun h 0)
end PS
section
variable {p : Int}
theorem ps_ne (hp : 0 < p) {a : List Int} (ha : Nrm p a) (h : a ≠ []) : ps p a ≠ 0 := fun z => h (ps_inj hp ha nrm_nil (by rw [z, ps_nil]))
theorem ps_eq0 (hp : 0 < p) {a : List Int} (ha : Nrm p a) : ps p a = 0 ↔ a = [] := ⟨fun z => ps_inj hp ha nrm_nil (by rw [z, ps_nil]), fun z => by rw [z, ps_nil]⟩
/-! ### the highest power of a product -/
theorem sm_one {n j : Nat} {f : Nat → Int} (hj : j < n) (h : ∀ i, i < n → i ≠ j → f i = 0) : sm n f = f j := by
  induction n with
  | zero => omega
  | succ n ih =>
    rw [sm_succ]
    by_cases q : j = n
    · subst q
      rw [sm_zeros fun i hi => h i (by omega) (by omega)]; omega
    · rw [ih (by omega) fun i hi hne => h i (by omega) hne, h n (by omega) (by omega)]; omega
theorem conv_top {a b : List Int} (ha : a ≠ []) (hb : b ≠ []) : conv a b (a.length + b.length - 2) = lastI a * lastI b := by
  have h1 := List.length_pos_iff.mpr ha
  have h2 := List.length_pos_iff.mpr hb
  rw [lastI_cf ha, lastI_cf hb]
  unfold conv
  rw [sm_one (j := a.length - 1) (by omega) fun i hi hne => ?_, show a.length + b.length - 2 - (a.length - 1) = b.length - 1 by omega]
  by_cases q : a.length ≤ i
  · rw [cf_out q, Int.zero_mul]
  · rw [cf_out (show b.length ≤ a.length + b.length - 2 - i by omega), Int.mul_zero]
theorem mulmod_ne (hp : Pm p) {x y : Int} (hx : x % p ≠ 0) (hy : y % p ≠ 0) : x * y % p ≠ 0 := fun z => by
  have : ZM.mk p x * ZM.mk p y = 0 := by rw [ZM.mk_mul]; exact ZM.eq_zero.mpr z
  rcases ZM.dom hp this with w | w
  · exact hx (ZM.eq_zero.mp w)
  · exact hy (ZM.eq_zero.mp w)
theorem Nrm.lmod {l : List Int} (h : Nrm p l) (q : l ≠ []) : lastI l % p ≠ 0 := by
  have := h.lst q
  rw [Int.emod_eq_of_lt (by omega) (by omega)]; omega
theorem pmul_len3 (hp : Pm p) {a b : List Int} (na : Nrm p a) (nb : Nrm p b) (ha : a ≠ []) (hb : b ≠ []) : (pmul p a b).length = a.length + b.length - 1 := by
  have h1 := List.length_pos_iff.mpr ha
  have h2 := List.length_pos_iff.mpr hb
  refine Nat.le_antisymm (pmul_len2 hp.pos) ?_
  have ht : cf (pmul p a b) (a.length + b.length - 2) ≠ 0 := by
    rw [cf_pmul, conv_top ha hb]
    exact mulmod_ne hp (na.lmod ha) (nb.lmod hb)
  apply Decidable.byContradiction
  intro z
  exact ht (cf_out (by omega))
theorem pmul_last (hp : Pm p) {a b : List Int} (na : Nrm p a) (nb : Nrm p b) (ha : a ≠ []) (hb : b ≠ []) : pmul p a b ≠ [] ∧ lastI (pmul p a b) = lastI a * lastI b % p := by
  have h1 := List.length_pos_iff.mpr ha
  have h2 := List.length_pos_iff.mpr hb
  have hl := pmul_len3 hp na nb ha hb
  have hne : pmul p a b ≠ [] := by intro z; rw [z] at hl; simp at hl; omega
  refine ⟨hne, ?_⟩
  rw [lastI_cf hne, hl, show a.length + b.length - 1 - 1 = a.length + b.length - 2 by omega, cf_pmul, conv_top ha hb]
/-! ### what divides -/
def Dvd (p : Int) (g a : List Int) : Prop := ∃ x, Nrm p x ∧ ps p a = ps p x * ps p g
theorem div_exact (hp : Pm p) {a g : List Int} (na : Nrm p a) (ng : Nrm p g) (hg : g ≠ []) (h : Dvd p g a) : ps p a = ps p (pquo p a g) * ps p g ∧ prem p a g = [] := by
  obtain ⟨x, nx, hx⟩ := h
  obtain ⟨h1, h2⟩ := div_eq hp (a := a) hg ng
  have hr : prem p a g = [] := by
    apply Classical.byContradiction
    intro hne
    -- rest = (x - q) * g
    have e : ps p (prem p a g) = ps p (psub p x (pquo p a g)) * ps p g := by
      rw [ps_psub]
      have : ps p (prem p a g) = ps p a - ps p (pquo p a g) * ps p g := by rw [h1]; grind
      rw [this, hx]; grind
    have nz : psub p x (pquo p a g) ≠ [] := by
      intro z
      rw [z, ps_nil] at e
      exact hne ((ps_eq0 hp.pos (prem_nrm hp.pos)).mp (by rw [e]; grind))
    have nn : Nrm p (psub p x (pquo p a g)) := trim_nrm hp.pos _
    have e2 : prem p a g = pmul p (psub p x (pquo p a g)) g := ps_inj hp.pos (prem_nrm hp.pos) (trim_nrm hp.pos _) (by rw [e, ps_pmul])
    have := pmul_len3 hp nn ng nz hg
    rw [← e2] at this
    have := List.length_pos_iff.mpr nz
    have := List.length_pos_iff.mpr hg
    omega
  refine ⟨?_, hr⟩
  rw [hr, ps_nil] at h1
  calc ps p a = _ := h1
    _ = _ := by grind
theorem quo_ne (hp : Pm p) {a g : List Int} (na : Nrm p a) (ng : Nrm p g) (hg : g ≠ []) (h : Dvd p g a) (ha : a ≠ []) : pquo p a g ≠ [] := fun z => by
  have := (div_exact hp na ng hg h).1
  rw [z, ps_nil] at this
  exact ha ((ps_eq0 hp.pos na).mp (by rw [this]; grind))
theorem quo_eq (hp : Pm p) {a g x : List Int} (na : Nrm p a) (ng : Nrm p g) (nx : Nrm p x) (hg : g ≠ []) (h : ps p a = ps p x * ps p g) : pquo p a g = x := by
  have := (div_exact hp na ng hg ⟨x, nx, h⟩).1
  exact ps_inj hp.pos (pquo_nrm hp.pos) nx (PS.cancel hp (ps_ne hp.pos ng hg) (by rw [← this, h]))
/-! ### Euclid -/
structure EgJ (p : Int) (a b : List Int) (s : Tri × Tri) : Prop where
  b1 : ps p s.1.1 = ps p s.1.2.1 * ps p a + ps p s.1.2.2 * ps p b
  b2 : ps p s.2.1 = ps p s.2.2.1 * ps p a + ps p s.2.2.2 * ps p b
  d1 : ∃ x y, ps p a = ps p x * ps p s.1.1 + ps p y * ps p s.2.1
  d2 : ∃ x y, ps p b = ps p x * ps p s.1.1 + ps p y * ps p s.2.1
theorem egj_start {a b : List Int} : EgJ p a b (eg0 a b) := by
  refine ⟨?_, ?_, ⟨[1], [], ?_⟩, ⟨[], [1], ?_⟩⟩ <;> simp only [eg0, ps_one, ps_nil] <;> grind
theorem egj_turn (hp : Pm p) {a b : List Int} {B : Nat} {s : Tri × Tri} (i : EgI p B s) (j : EgJ p a b s) (h : egC s = true) : EgJ p a b (egStep p s) := by
  have hne : s.2.1 ≠ [] := by simpa [egC] using h
  have hd := (div_eq hp (a := s.1.1) hne i.n2).1
  obtain ⟨x1, y1, h1⟩ := j.d1
  obtain ⟨x2, y2, h2⟩ := j.d2
  have hb1 := j.b1
  have hb2 := j.b2
  refine ⟨j.b2, ?_, ⟨padd p y1 (pmul p x1 (pquo p s.1.1 s.2.1)), x1, ?_⟩, ⟨padd p y2 (pmul p x2 (pquo p s.1.1 s.2.1)), x2, ?_⟩⟩
  · show ps p (prem p s.1.1 s.2.1) = ps p (psub p s.1.2.1 (pmul p (pquo p s.1.1 s.2.1) s.2.2.1)) * ps p a + ps p (psub p s.1.2.2 (pmul p (pquo p s.1.1 s.2.1) s.2.2.2)) * ps p b
    rw [ps_psub, ps_psub, ps_pmul, ps_pmul]
    generalize ps p (prem p s.1.1 s.2.1) = R at *
    generalize ps p (pquo p s.1.1 s.2.1) = Q at *
    grind
  · show ps p a = _ * ps p s.2.1 + ps p x1 * ps p (prem p s.1.1 s.2.1)
    rw [ps_padd, ps_pmul, h1]
    generalize ps p (prem p s.1.1 s.2.1) = R at *
    generalize ps p (pquo p s.1.1 s.2.1) = Q at *
    rw [hd]; grind
  · show ps p b = _ * ps p s.2.1 + ps p x2 * ps p (prem p s.1.1 s.2.1)
    rw [ps_padd, ps_pmul, h2]
    generalize ps p (prem p s.1.1 s.2.1) = R at *
    generalize ps p (pquo p s.1.1 s.2.1) = Q at *
    rw [hd]; grind
structure GcdOk (p : Int) (a b g : List Int) : Prop where
  nr : Nrm p g
  ne : g ≠ []
  mo : lastI g = 1
  da : Dvd p g a
  db : Dvd p g b
  bz : ∃ u v, ps p g = ps p u * ps p a + ps p v * ps p b
theorem nrmz (hp : 0 < p) (x : List Int) : ∃ y, Nrm p y ∧ ps p y = ps p x := ⟨trim p x, trim_nrm hp x, ps_trim⟩
theorem gcd_ok (hp : Pm p) {a b : List Int} (na : Nrm p a) (nb : Nrm p b) (h : a ≠ [] ∨ b ≠ []) : GcdOk p a b (pgcd p a b) := by
  obtain ⟨⟨iv, jv⟩, hc⟩ := while_inv (c := egC) (f := egStep p) (Iv := fun s => EgI p (a.length + b.length + 1) s ∧ EgJ p a b s) (μ := fun s => s.2.1.length) (fun s i h => ⟨⟨(eg_turn hp i.1 h).1, egj_turn hp i.1 i.2 h⟩, (eg_turn hp i.1 h).2⟩) b.length (eg0 a b) ⟨eg_start hp na nb, egj_start⟩ (Nat.le_refl _)
  have hF : egF p a b = whileN egC (egStep p) b.length (eg0 a b) := rfl
  unfold pgcd pgcd3
  rw [hF]
  generalize whileN egC (egStep p) b.length (eg0 a b) = s at *
  have h2 : s.2.1 = [] := by simpa [egC] using hc
  obtain ⟨x1, y1, h3⟩ := jv.d1
  obtain ⟨x2, y2, h4⟩ := jv.d2
  rw [h2, ps_nil] at h3 h4
  have hne : s.1.1 ≠ [] := by
    intro z
    rw [z, ps_nil] at h3 h4
    rcases h with w | w
    · exact w ((ps_eq0 hp.pos na).mp (by rw [h3]; grind))
    · exact w ((ps_eq0 hp.pos nb).mp (by rw [h4]; grind))
  rw [if_neg hne]
  obtain ⟨k1, k2, k3⟩ := pinv_mem hp (iv.n1.lmod hne)
  have hpg := hp.ge
  have hl : ZM.mk p (pinv p (lastI s.1.1)) * ZM.mk p (lastI s.1.1) = 1 := by
    rw [ZM.mk_mul]
    exact ZM.sound (by rw [k3]; exact (Int.emod_eq_of_lt (by omega) (by omega)).symm)
  have hC : (PS.C (ZM.mk p (pinv p (lastI s.1.1))) : PZ p) * PS.C (ZM.mk p (lastI s.1.1)) = 1 := by rw [← PS.C_mulC, hl]; rfl
  have hps : ps p (pscl p s.1.1 (pinv p (lastI s.1.1))) = PS.C (ZM.mk p (pinv p (lastI s.1.1))) * ps p s.1.1 := ps_pscl
  have nn : Nrm p (pscl p s.1.1 (pinv p (lastI s.1.1))) := trim_nrm hp.pos _
  have gne : pscl p s.1.1 (pinv p (lastI s.1.1)) ≠ [] := by
    intro z
    rw [z, ps_nil] at hps
    exact ps_ne hp.pos iv.n1 hne (by
      have : ps p s.1.1 = PS.C (ZM.mk p (lastI s.1.1)) * (PS.C (ZM.mk p (pinv p (lastI s.1.1))) * ps p s.1.1) := by grind
      rw [this, ← hps]; grind)
  have cst : ∀ n : Int, ps p [n] = PS.C (ZM.mk p n) := fun n => PS.ext fun k => by
    cases k with
    | zero => rfl
    | succ k => rfl
  have dv : ∀ (z x : List Int), ps p z = ps p x * ps p s.1.1 + (0 : PZ p) → Dvd p (pscl p s.1.1 (pinv p (lastI s.1.1))) z := fun z x e => by
    obtain ⟨y, ny, hy⟩ := nrmz hp.pos (pmul p x [lastI s.1.1])
    refine ⟨y, ny, ?_⟩
    rw [hy, ps_pmul, hps, cst, e]
    grind
  refine ⟨nn, gne, ?_, dv a x1 (by rw [h3]; grind), dv b x2 (by rw [h4]; grind), ?_⟩
  · have e : pscl p s.1.1 (pinv p (lastI s.1.1)) = pmul p s.1.1 [pinv p (lastI s.1.1)] := ps_inj hp.pos nn (trim_nrm hp.pos _) (by rw [hps, ps_pmul, cst]; grind)
    have n1 : Nrm p [pinv p (lastI s.1.1)] := ⟨fun x hx => by simp at hx; omega, fun _ => by show pinv p (lastI s.1.1) ≠ 0; omega⟩
    rw [e, (pmul_last hp iv.n1 n1 hne (by simp)).2]
    show lastI s.1.1 * pinv p (lastI s.1.1) % p = 1
    rw [Int.mul_comm, k3]
  · refine ⟨pmul p [pinv p (lastI s.1.1)] s.1.2.1, pmul p [pinv p (lastI s.1.1)] s.1.2.2, ?_⟩
    rw [hps, ps_pmul, ps_pmul, cst, jv.b1]
    grind
end
end Cw
set_option maxHeartbeats 4000000
namespace Cw
open PySem PySem.Spec PyProof.Rows L2
/-! the layer's rules, the written part named -/
section
variable {X : Cx} (K : Fg)
theorem ixl (h : X.K = K := by rfl) : IxR X (rIxL K) := by cases h; exact ix_list
theorem ixt (h : X.K = K := by rfl) : IxR X (rIxT K) := by cases h; exact ix_tup
theorem sll (h : X.K = K := by rfl) : SlR X (rSlL K) := by cases h; exact sl_list
theorem slt (h : X.K = K := by rfl) : SlR X (rSlT K) := by cases h; exact sl_tup
theorem opEq (hu : X.A.units + 64 < cLine) (h : X.K = K := by rfl) : OpR X (compareOp .Eq) (rEqD K) := by cases h; exact op_eqD hu
theorem opNe (hu : X.A.units + 64 < cLine) (h : X.K = K := by rfl) : OpR X (compareOp .NotEq) (rNeD K) := by cases h; exact op_neD hu
theorem inS (h : X.K = K := by rfl) : OpR X (compareOp .In) (rIn K false) := by cases h; exact op_in_seq
theorem niS (h : X.K = K := by rfl) : OpR X (compareOp .NotIn) (rIn K true) := by cases h; exact op_notIn_seq
theorem lenS (h : X.K = K := by rfl) : CallR X (.builtin "len") (fun xs H Q => ∃ p ys, xs = [V.ref p] ∧ (SqL K H p ys ∨ SqT K H p ys) ∧ Q (.int ys.length) H) := by cases h; exact call_len_seq
theorem lstOf (h : X.K = K := by rfl) : CallR X (.type "list") (fun xs H Q => ∃ p ys, xs = [V.ref p] ∧ (SqL K H p ys ∨ SqT K H p ys) ∧ ∀ l, H l = none → Q (.ref l) (upd H l (.lst ys))) := by cases h; exact call_list_of
theorem tupOf (h : X.K = K := by rfl) : CallR X (.type "tuple") (fun xs H Q => ∃ p ys, xs = [V.ref p] ∧ ((SqL K H p ys ∧ ∀ l, H l = none → Q (.ref l) (upd H l (.tup ys))) ∨ (SqT K H p ys ∧ Q (.ref p) H))) := by cases h; exact call_tuple_of
theorem sumS (hc : X.calm = true) (h : X.K = K := by rfl) : CallR X (.builtin "sum") (rSum K) := by cases h; exact cr_sum hc
theorem isiS (h : X.K = K := by rfl) : CallR X (.builtin "isinstance") (rIsi K) := by cases h; exact call_isi
theorem pil {tg l : Expr} {tl : TE} (hl : PE X l tl) (h : X.K = K := by rfl) : PI X tg l (iList K tl) := by cases h; exact pi_list hl
theorem pit {tg l : Expr} {tl : TE} (hl : PE X l tl) (h : X.K = K := by rfl) : PI X tg l (iTup K tl) := by cases h; exact pi_tup hl
theorem pien {e : Expr} {ta : TA} {p pos tpos : Pos} {elts : List Expr} {kk : Nat} (hg : Gl X "enumerate") (hm : X.mg "enumerate" = none) (ha : PA X [e] ta) (hs : starEach [e] X.env = [(false, eval e X.env)] := by rfl) (h : X.K = K := by rfl) :
    PI X (.Tuple elts kk tpos) (.Call (.Name "enumerate" p) [e] [] pos) (iEnum K ta) := by cases h; exact pi_enum hg hm ha hs
theorem pizip {e e2 : Expr} {ta : TA} {p pos tpos : Pos} {elts : List Expr} {kk : Nat} (hg : Gl X "zip") (hm : X.mg "zip" = none) (ha : PA X [e, e2] ta)
    (hs : starEach [e, e2] X.env = (false, eval e X.env) :: starEach [e2] X.env := by rfl) (hpl : (backTo pos (starEach [e2] X.env)).any (·.1) = false := by rfl) (h : X.K = K := by rfl) :
    PI X (.Tuple elts kk tpos) (.Call (.Name "zip" p) [e, e2] [] pos) (iZip K ta) := by cases h; exact pi_zip hg hm ha hs hpl
theorem pfld {e : Expr} {f : Str} {pos : Pos} {ta : TE} (he : PE X e ta) (hb : attributeBase e f X.env (eval e X.env) = eval e X.env) (h : X.K = K := by rfl) : PE X (.Attribute e f pos) (tFld K ta f) := by cases h; exact pe_fld he hb
theorem prevl {e : Expr} {te : TE} {k : Nat} {p1 p2 p3 pos : Pos} (he : PE X e te) (h : X.K = K := by rfl) : PE X (.Subscript e (.Slice none none (some (.UnaryOp .USub (.Constant (.int 1) k p1) p2)) p3) pos) (tRevL K te) := by cases h; exact pe_revL he
theorem pgt {es : List Expr} {k : Nat} {t : TGs} {n : Nat} {pos : Pos} (hc : X.calm = true) (h : PGs X es t)
    (hn : (assignEach es X.env).length = n := by rfl) (hst : (assignEach es X.env).findIdx? (·.1) = none := by rfl) (hk : X.K = K := by rfl) : PG X (.Tuple es k pos) (gTup K n t) := by cases hk; exact pg_tup hc h hn hst
end
end Cw
set_option maxHeartbeats 4000000
namespace Cw
open PySem PySem.Spec PyProof.Rows L2
section
variable {K : Fg} {G : Ctx} {te ta tb tc : TE} {tt tu : TT} {tr : TA} {t u r : TS} {d e : D}
theorem ev_isi {n m : String} {b : Bool} (h : EvD K ta G d) (ty : ∀ F v, Rep K F d v → TyX K F v (.type m)) (k : kitB m n = some b) : EvD K (tCB (rIsi K) (tCons ta (tCons (tC (.ty n)) tNil))) G (.bl b) := fun F0 H0 F H σ s Q q => h F0 H0 F H σ s _ fun v F1 H1 t1 r1 =>
  ⟨v, .ty n, _, _, b, rfl, .ty n, ty H1 v (Rep.mono t1.fh _ _ r1), kit_ty k, q _ F1 H1 t1 rfl⟩
theorem ty_int {i : Int} : ∀ F v, Rep K F (.int i) v → TyX K F v (.type "int") := fun F v h => by cases h; exact .base (.int i)
theorem ty_lst {ds : List D} : ∀ F v, Rep K F (.lst ds) v → TyX K F v (.type "list") := fun F v h => by
  obtain ⟨a, vs, rfl, h1, _⟩ := h
  exact .base (.lst h1)
theorem ev_isC {C : Addr} {ns : List Str} {ds : List D} (h : EvD K ta G (.ins C ns ds)) : EvD K (tCB (fun xs H Q => ∃ a dx fs, xs = [V.ref a, V.ref C] ∧ H a = some (.ins C dx fs) ∧ Q (.bl true) H) (tCons ta (tCons (tC (.ref C)) tNil))) G (.bl true) := fun F0 H0 F H σ s Q q => h F0 H0 F H σ s _ fun v F1 H1 t1 r1 => by
  obtain ⟨a, dx, us, rfl, h1, _⟩ := r1
  exact ⟨a, dx, _, rfl, t1.fh _ _ h1, q _ F1 H1 t1 rfl⟩
end
end Cw
namespace Cw
open PySem PySem.Spec PyProof.Rows L2
section
variable {K : Fg} {G : Ctx} {te ta tb tc : TE} {tt tu : TT} {tr : TA} {t u r : TS} {d e : D}
/-- x in, not in a tuple or list of ints -/
theorem inV_int {x : Int} : ∀ ns : List Int, inV (.int x) (ns.map V.int) = decide (x ∈ ns) := by
  intro ns
  unfold inV
  induction ns with
  | nil => rfl
  | cons n ns ih =>
    rw [List.map_cons, List.any_cons, ih]
    by_cases h : x = n
    · subst h; simp [eqV]
    · have h2 : ¬ n = x := fun z => h z.symm
      simp [eqV, h, h2]
theorem flat_ints : ∀ ns : List Int, (ns.map V.int).all flatV = true := by
  intro ns
  induction ns with
  | nil => rfl
  | cons n ns ih => rw [List.map_cons, List.all_cons, ih]; rfl
theorem ev_inT {neg : Bool} {x : Int} {ns : List Int} (ha : EvD K ta G (.int x)) (hb : EvD K tb G (.tup (ns.map D.int))) : EvD K (tOp (rIn K neg) ta tb) G (.bl (if neg then !decide (x ∈ ns) else decide (x ∈ ns))) := ev_op ha hb fun F H v w s hx hy Q q => by
  cases hx
  obtain ⟨a, vs, rfl, h1, h2⟩ := hy
  have e := h2.ints
  subst e
  refine ⟨a, _, rfl, .inr (sqT_mono s h1), rfl, flat_ints ns, q _ F H (Step.refl s) ?_⟩
  rw [inV_int]
  rfl
theorem ev_inL {neg : Bool} {x : Int} {ns : List Int} (ha : EvD K ta G (.int x)) (hb : EvD K tb G (inD ns)) : EvD K (tOp (rIn K neg) ta tb) G (.bl (if neg then !decide (x ∈ ns) else decide (x ∈ ns))) := ev_op ha hb fun F H v w s hx hy Q q => by
  cases hx
  obtain ⟨a, vs, rfl, h1, h2⟩ := hy
  have e := h2.ints
  subst e
  refine ⟨a, _, rfl, .inl (.inl (.inl (s _ _ h1))), rfl, flat_ints ns, q _ F H (Step.refl s) ?_⟩
  rw [inV_int]
  rfl
/-- a tuple of ints of the top -/
theorem ev_gtup {a : Addr} {ns : List Int} (h : ∀ H, SqT K H a (ns.map V.int)) : EvD K (tC (.ref a)) G (.tup (ns.map D.int)) := ev_glo fun F => ⟨a, _, rfl, h F, Reps.ofInts⟩
theorem ev_isN0 {i : Int} (ha : EvD K ta G (.int i)) : EvD K (tOp (fun x y H Q => y = .non ∧ Q (.bl (decide (x = .non))) H) ta (tC .non)) G (.bl false) := ev_op (b := .non) ha ev_non fun F H v w s hx hy Q q => by
  cases hx
  cases hy
  exact ⟨rfl, q _ F H (Step.refl s) rfl⟩
end
def p_is_whole (ds : List D) (d : D) : Prop := ∃ i, ds = [.int i] ∧ True ∧ d = .bl true
def p_is_between (ds : List D) (d : D) : Prop := ∃ v lo hi, ds = [.int v, .int lo, .int hi] ∧ True ∧ d = .bl (decide (lo ≤ v) && decide (v ≤ hi))
def p_check_number (ds : List D) (d : D) : Prop := ∃ v lo hi, ds = [.int v, .int lo, .int hi] ∧ lo ≤ v ∧ v ≤ hi ∧ d = .non
def p_check_prime (ds : List D) (d : D) : Prop := ∃ p, ds = [.int p] ∧ Pm p ∧ d = .non
def p_is_poly_list (ds : List D) (d : D) : Prop := ∃ p a, ds = [.int p, inD a] ∧ 0 < p ∧ Nrm p a ∧ a.length ≤ 61 ∧ d = .bl true
def p_check_poly (ds : List D) (d : D) : Prop := ∃ p a, ds = [.int p, inD a] ∧ 0 < p ∧ Nrm p a ∧ a.length ≤ 61 ∧ d = .non
end Cw
set_option maxHeartbeats 4000000
namespace Cw
open PySem PySem.Spec PyProof.Rows L2
/-! ### making objects -/
def spI (K : Fg) (C : Addr) (P : List D → D → Prop) : Sp := fun vs H Q _ => ∃ F x dx us ds ns fs, vs = .ref x :: us ∧ Same F H ∧ Reps K F ds us ∧ H x = some (.ins C dx []) ∧ F x = none ∧ P ds (.ins C ns fs) ∧
  ∀ ws F' H', Same F F' → (∀ b o, b ≠ x → H b = some o → H' b = some o) → Same F' H' → (∀ a, F' a ≠ none → F a ≠ none ∨ H a = none) → F' x = none → H' x = some (.ins C dx (ns.zip ws)) → ws.length = ns.length → Reps K F' fs ws → Q .non H'
section
variable {K : Fg} {G : Ctx} {te ta tb tc tv : TE} {tt tu : TT} {tr : TA} {t u r : TS} {d e : D} {ds fs : List D} {ns : List Str} {C : Addr}
/-- a new object of one's own: x stands apart -/
theorem mk_apart {P : List D → D → Prop} {E : XK} (h : EvA K tr G ds) (p : P ds (.ins C ns fs)) {F0 H0 F H : Hp} {σ : L2.St} (s : SOk K F0 H0 F H σ G) {Q : VK}
    (q : ∀ x dx ws F' H', Step F H F' H' → H x = none → F' x = none → H' x = some (.ins C dx (ns.zip ws)) → ws.length = ns.length → Reps K F' fs ws → Q (.ref x) H') : tMake C (spI K C P) [] E tr σ H Q := by
  refine h F0 H0 F H σ s _ fun vs F1 H1 t1 r1 x dx hx hdx hne => ?_
  have e1 : Same H1 (upd (upd H1 dx (.own x)) x (.ins C dx [])) := (same_new hdx).trans (same_new (by rw [upd_ne (Ne.symm hne)]; exact hx))
  refine ⟨F1, x, dx, vs, ds, ns, fs, by rw [List.append_nil], t1.fh.trans e1, r1, upd_same, t1.fh.free hx, p, fun ws F' H' a1 a2 a3 a4 a5 a6 a7 a8 => ⟨rfl, ?_⟩⟩
  refine q x dx ws F' H' (t1.trans ⟨a1, fun b o hb => a2 b o (ne_of_none hb hx) (e1 b o hb), a3, fun a n => ?_⟩) (t1.hh.free hx) a5 a6 a7 a8
  rcases a4 a n with z | z
  · exact .inl z
  · exact .inr (e1.free z)
theorem ev_make {P : List D → D → Prop} {E : XK} (h : EvA K tr G ds) (p : P ds (.ins C ns fs)) : EvD K (tMake C (spI K C P) [] E tr) G (.ins C ns fs) := fun F0 H0 F H σ s Q q =>
  mk_apart h p s fun x dx ws F' H' t hx hf hh hl r => q (.ref x) (upd F' x (.ins C dx (ns.zip ws))) H' (t.pub hx hf hh) ⟨x, dx, ws, rfl, upd_same, hl, Reps.mono (same_new hf) _ _ r⟩
theorem putF_snoc {f : Str} {v : V} : ∀ {ns : List Str} {ws : List V}, ws.length = ns.length → f ∉ ns → putF f v (ns.zip ws) = (ns ++ [f]).zip (ws ++ [v])
  | [], ws, hl, _ => by
    have : ws = [] := List.length_eq_zero_iff.mp (by simpa using hl)
    subst this
    rfl
  | n :: ns, [], hl, _ => by simp at hl
  | n :: ns, w :: ws, hl, hf => by
    have h1 : ¬ n = f := fun z => hf (by rw [z]; exact List.mem_cons_self)
    show (if n = f then (n, v) :: ns.zip ws else (n, w) :: putF f v (ns.zip ws)) = _
    rw [if_neg h1, putF_snoc (by simpa using hl) fun z => hf (List.mem_cons_of_mem _ z)]
    rfl
theorem SOk.mutX {F0 H0 F H : Hp} {σ : L2.St} (s : SOk K F0 H0 F H σ G) {x dx : Addr} {gs : List (Str × V)} {o : HO} (h0 : H0 x = none) (hf : F x = none) (hx : H x = some (.ins C dx gs)) : SOk K F0 H0 F (upd H x o) σ G where
  st := s.st.mutP h0 hf
  len := s.len
  sl := fun i c e => by
    obtain ⟨w, h1, h2⟩ := s.sl i c e
    refine ⟨w, h1, ?_⟩
    cases c with
    | un => trivial
    | val d => exact h2
    | own ds =>
      obtain ⟨b, ws, rfl, k1, k2, k3, k4⟩ := h2
      refine ⟨b, ws, rfl, ?_, k2, k3, k4⟩
      rw [upd_ne (fun z => ?_)]
      · exact k1
      · subst z
        rw [hx] at k1
        cases k1
  ap := s.ap
/-- self.f = e, the object apart -/
theorem fld_apart {f : Str} {F0 H0 F H : Hp} {σ : L2.St} {E : Ends} {i : Nat} {x dx : Addr} {ws : List V} (c : Cls K C) (n : NoAttr K C f) (hfn : f ∉ ns) (hl : ns.length < 999) (s : SOk K F0 H0 F H σ G) (h : EvD K tv G d) (hs : σ[i]? = some (some (.ref x))) (h0 : H0 x = none) (hf : F x = none) (hx : H x = some (.ins C dx (ns.zip ws))) (hw : ws.length = ns.length)
    (q : ∀ v F' H', Step F H F' H' → F' x = none → SOk K F0 H0 F' (upd H' x (.ins C dx ((ns ++ [f]).zip (ws ++ [v])))) σ G → Rep K F' d v → (upd H' x (.ins C dx ((ns ++ [f]).zip (ws ++ [v])))) x = some (.ins C dx ((ns ++ [f]).zip (ws ++ [v]))) → E.nx σ (upd H' x (.ins C dx ((ns ++ [f]).zip (ws ++ [v]))))) : sFld K (tVar i) tv f E σ H := by
  refine h F0 H0 F H σ s _ fun v F1 H1 t1 r1 => ⟨.ref x, hs, x, C, dx, ns.zip ws, rfl, (t1.kp hx hf).1, c, n, ?_, ?_⟩
  · rw [List.length_zip, hw]; omega
  · rw [putF_snoc hw hfn]
    exact q v F1 H1 t1 (t1.kp hx hf).2 ((s.step t1).mutX h0 (t1.kp hx hf).2 (t1.kp hx hf).1) r1 upd_same
/-- a test that is not so, a statement whose value is dropped: the slots as they are -/
theorem raw_no {F0 H0 F H : Hp} {σ : L2.St} {E : Ends} {b : Bool} (s : SOk K F0 H0 F H σ G) (h : EvB K tt G b) (hb : b = false) (k : ∀ F' H', Step F H F' H' → r E σ H') : tSeq (tIfS tt t tNext) r E σ H := h F0 H0 F H σ s _ fun F1 H1 t1 => by
  subst hb
  exact iteF (k F1 H1 t1)
theorem raw_drop {F0 H0 F H : Hp} {σ : L2.St} {E : Ends} (s : SOk K F0 H0 F H σ G) (h : EvD K te G d) (k : ∀ F' H', Step F H F' H' → r E σ H') : tSeq (tDrop te) r E σ H := h F0 H0 F H σ s _ fun _ F1 H1 t1 _ => k F1 H1 t1
/-- a heap without x -/
def del (H : Hp) (x : Addr) : Hp := fun b => if b = x then none else H b
theorem del_x {H : Hp} {x : Addr} : del H x x = none := if_pos rfl
theorem del_ne {H : Hp} {x b : Addr} (h : b ≠ x) : del H x b = H b := if_neg h
theorem del_same {H : Hp} {x : Addr} : Same (del H x) H := fun b o h => by
  by_cases q : b = x
  · subst q; rw [del_x] at h; cases h
  · rw [del_ne q] at h; exact h
/-- the start of an __init__ -/
theorem sokI {F H : Hp} {N : List Str} {x : Addr} {us : List V} {ds : List D} (s : Same F H) (hf : F x = none) (r : Reps K F ds us) : SOk K F (del H x) F H (L2.start N (.ref x :: us)) (.un :: ctx0 (N.length - 1) ds) where
  st := ⟨Same.refl _, del_same, s, fun _ n => .inl n⟩
  len := by
    simp [L2.start, ctx0, r.len]; omega
  sl := fun i c e => by
    cases i with
    | zero => exact ⟨some (.ref x), rfl, by cases e; trivial⟩
    | succ i =>
      have h := (sok0 (N := N.drop 1) s r).sl i c (by
        rw [List.length_drop]
        exact e)
      obtain ⟨o, h1, h2⟩ := h
      refine ⟨o, ?_, ?_⟩
      · unfold L2.start at h1 ⊢
        rw [List.length_drop] at h1
        rw [List.map_cons, List.cons_append, List.getElem?_cons_succ, show N.length - (V.ref x :: us).length = N.length - 1 - us.length by rw [List.length_cons]; omega]
        exact h1
      · cases c with
        | un => trivial
        | val d => exact h2
        | own es =>
          exfalso
          have e' : (ctx0 (N.length - 1) ds)[i]? = some (.own es) := e
          unfold ctx0 at e'
          rcases List.mem_append.mp (List.mem_of_getElem? e') with z | z
          · obtain ⟨d, _, q⟩ := List.mem_map.mp z
            cases q
          · have := (List.mem_replicate.mp z).2
            cases this
  ap := fun i j es gs a e1 _ _ _ => by
    exfalso
    cases i with
    | zero => cases e1
    | succ i =>
      have e' : (ctx0 (N.length - 1) ds)[i]? = some (.own es) := e1
      unfold ctx0 at e'
      rcases List.mem_append.mp (List.mem_of_getElem? e') with z | z
      · obtain ⟨d, _, q⟩ := List.mem_map.mp z
        cases q
      · have := (List.mem_replicate.mp z).2
        cases this
/-- the end of an __init__ -/
theorem init_end {F H F' H' : Hp} {x dx : Addr} {ws : List V} {Q : V → Hp → Prop} (t : Step F (del H x) F' H') (hf : F' x = none) (hx : H' x = some (.ins C dx (ns.zip ws))) (hl : ws.length = ns.length) (r : Reps K F' fs ws)
    (q : ∀ ws F' H', Same F F' → (∀ b o, b ≠ x → H b = some o → H' b = some o) → Same F' H' → (∀ a, F' a ≠ none → F a ≠ none ∨ H a = none) → F' x = none → H' x = some (.ins C dx (ns.zip ws)) → ws.length = ns.length → Reps K F' fs ws → Q .non H') : Q .non H' := by
  refine q ws F' H' t.ff (fun b o hb h => t.hh b o (by rw [del_ne hb]; exact h)) t.fh (fun a n => ?_) hf hx hl r
  rcases t.nw a n with z | z
  · exact .inl z
  · by_cases e : a = x
    · subst e; exact absurd hf n
    · rw [del_ne e] at z; exact .inr z
end
/-! ### a curve -/
def cvD (K : Fg) (c : Int × List Int) : D := .ins (He.ga K "Curve") ["_prime", "_polynomial"] [.int c.1, inD c.2]
/-- what is asked of a curve -/
structure CvOk (c : Int × List Int) : Prop where
  pm : Pm c.1
  nr : Nrm c.1 c.2
  ln : c.2.length = 2 ∨ c.2.length = 4 ∨ c.2.length = 6 ∨ c.2.length = 8
  mo : lastI c.2 = 1
  sq : pgcd c.1 c.2 (pder c.1 c.2) = [1]
def p_Curve___init__ (K : Fg) (ds : List D) (d : D) : Prop := ∃ p f, ds = [.int p, inD f] ∧ CvOk (p, f) ∧ d = cvD K (p, f)
def p_is_curve_poly (ds : List D) (d : D) : Prop := ∃ p f, ds = [.int p, inD f] ∧ CvOk (p, f) ∧ d = .bl true
def p_Curve_prime (K : Fg) (ds : List D) (d : D) : Prop := ∃ c, ds = [cvD K c] ∧ True ∧ d = .int c.1
def p_Curve_polynomial (K : Fg) (ds : List D) (d : D) : Prop := ∃ c, ds = [cvD K c] ∧ True ∧ d = inD c.2
def p_Curve_genus (K : Fg) (ds : List D) (d : D) : Prop := ∃ c, ds = [cvD K c] ∧ c.2.length ≤ 100 ∧ d = .int (((c.2.length : Int) - 2) / 2)
def p_Curve___eq__ (K : Fg) (ds : List D) (d : D) : Prop := ∃ c, ds = [cvD K c, cvD K c] ∧ True ∧ d = .bl true
def p_check_curve (K : Fg) (ds : List D) (d : D) : Prop := ∃ c, ds = [cvD K c] ∧ True ∧ d = .non
end Cw
set_option maxHeartbeats 4000000
namespace Cw
open Lean.Grind
/-! ### least forms -/
def leastT (p : Int) (t s b : List Int) : Tri :=
  (pscl p (pquo p t (pgcd p (pgcd p t s) b)) (pinv p (lastI (pquo p b (pgcd p (pgcd p t s) b)))),
   pscl p (pquo p s (pgcd p (pgcd p t s) b)) (pinv p (lastI (pquo p b (pgcd p (pgcd p t s) b)))),
   pscl p (pquo p b (pgcd p (pgcd p t s) b)) (pinv p (lastI (pquo p b (pgcd p (pgcd p t s) b)))))
structure LsOk (p : Int) (t : Tri) : Prop where
  n1 : Nrm p t.1
  n2 : Nrm p t.2.1
  n3 : Nrm p t.2.2
  ne : t.2.2 ≠ []
  mo : lastI t.2.2 = 1
  bz : ∃ u v w, ps p u * ps p t.1 + ps p v * ps p t.2.1 + ps p w * ps p t.2.2 = 1
section
variable {p : Int}
theorem pgcd_nil : pgcd p [] [] = [] := rfl
theorem gcd_two (hp : Pm p) {t s : List Int} (nt : Nrm p t) (ns : Nrm p s) : Nrm p (pgcd p t s) ∧ (∃ u v, ps p (pgcd p t s) = ps p u * ps p t + ps p v * ps p s) ∧ Dvd p (pgcd p t s) t ∧ Dvd p (pgcd p t s) s := by
  by_cases h : t ≠ [] ∨ s ≠ []
  · have g := gcd_ok hp nt ns h
    exact ⟨g.nr, g.bz, g.da, g.db⟩
  · have h1 : t = [] := Classical.byContradiction fun z => h (.inl z)
    have h2 : s = [] := Classical.byContradiction fun z => h (.inr z)
    subst h1 h2
    rw [pgcd_nil]
    refine ⟨nrm_nil, ⟨[], [], ?_⟩, ⟨[], nrm_nil, ?_⟩, ⟨[], nrm_nil, ?_⟩⟩ <;> rw [ps_nil] <;> grind
theorem Dvd.trans (hp : 0 < p) {a b c : List Int} (h : Dvd p a b) (k : Dvd p b c) : Dvd p a c := by
  obtain ⟨x, nx, hx⟩ := h
  obtain ⟨y, ny, hy⟩ := k
  refine ⟨pmul p y x, trim_nrm hp _, ?_⟩
  rw [hy, hx, ps_pmul]; grind
structure GtOk (p : Int) (t s b g : List Int) : Prop where
  nr : Nrm p g
  ne : g ≠ []
  mo : lastI g = 1
  d1 : Dvd p g t
  d2 : Dvd p g s
  d3 : Dvd p g b
  bz : ∃ u v w, ps p g = ps p u * ps p t + ps p v * ps p s + ps p w * ps p b
theorem gcd_three (hp : Pm p) {t s b : List Int} (nt : Nrm p t) (ns : Nrm p s) (nb : Nrm p b) (hb : b ≠ []) : GtOk p t s b (pgcd p (pgcd p t s) b) := by
  obtain ⟨h1, ⟨u, v, h2⟩, h3, h4⟩ := gcd_two hp nt ns
  have g := gcd_ok hp h1 nb (.inr hb)
  obtain ⟨x, y, hxy⟩ := g.bz
  refine ⟨g.nr, g.ne, g.mo, g.da.trans hp.pos h3, g.da.trans hp.pos h4, g.db, ⟨pmul p x u, pmul p x v, y, ?_⟩⟩
  rw [hxy, h2, ps_pmul, ps_pmul]; grind
theorem cst (n : Int) : ps p [n] = PS.C (ZM.mk p n) := PS.ext fun k => by
  cases k with
  | zero => rfl
  | succ k => rfl
theorem inv_C (hp : Pm p) {n : Int} (h : n % p ≠ 0) : (PS.C (ZM.mk p (pinv p n)) : PZ p) * PS.C (ZM.mk p n) = 1 := by
  obtain ⟨k1, k2, k3⟩ := pinv_mem hp h
  have hpg := hp.ge
  rw [← PS.C_mulC, ZM.mk_mul, show ZM.mk p (pinv p n * n) = 1 from ZM.sound (by rw [k3]; exact (Int.emod_eq_of_lt (by omega) (by omega)).symm)]
  rfl
/-- a factor k by which the parts were greater -/
theorem least_ok (hp : Pm p) {t s b : List Int} (nt : Nrm p t) (ns : Nrm p s) (nb : Nrm p b) (hb : b ≠ []) :
    LsOk p (leastT p t s b) ∧ ∃ k : List Int, ps p k ≠ 0 ∧ ps p t = ps p k * ps p (leastT p t s b).1 ∧ ps p s = ps p k * ps p (leastT p t s b).2.1 ∧ ps p b = ps p k * ps p (leastT p t s b).2.2 := by
  have g := gcd_three hp nt ns nb hb
  unfold leastT
  generalize pgcd p (pgcd p t s) b = c at g ⊢
  have e1 := (div_exact hp nt g.nr g.ne g.d1).1
  have e2 := (div_exact hp ns g.nr g.ne g.d2).1
  have e3 := (div_exact hp nb g.nr g.ne g.d3).1
  have q3 := quo_ne hp nb g.nr g.ne g.d3 hb
  have nq : Nrm p (pquo p b c) := pquo_nrm hp.pos
  have hm := nq.lmod q3
  have hC := inv_C hp hm
  generalize hI : pinv p (lastI (pquo p b c)) = I at hC ⊢
  obtain ⟨k1, k2, k3⟩ := pinv_mem hp hm
  rw [hI] at k1 k2 k3
  obtain ⟨u, v, w, hz⟩ := g.bz
  have n1 : Nrm p [I] := ⟨fun x hx => by simp at hx; omega, fun _ => by show I ≠ 0; omega⟩
  have eb : pscl p (pquo p b c) I = pmul p (pquo p b c) [I] := ps_inj hp.pos (trim_nrm hp.pos _) (trim_nrm hp.pos _) (by rw [ps_pscl, ps_pmul, cst]; grind)
  have pl := pmul_last hp nq n1 q3 (by simp)
  have hcn := ps_ne hp.pos g.nr g.ne
  refine ⟨⟨trim_nrm hp.pos _, trim_nrm hp.pos _, trim_nrm hp.pos _, ?_, ?_, ?_⟩, pscl p c (lastI (pquo p b c)), ?_, ?_, ?_, ?_⟩
  · show pscl p (pquo p b c) I ≠ []
    rw [eb]; exact pl.1
  · show lastI (pscl p (pquo p b c) I) = 1
    rw [eb, pl.2]
    show lastI (pquo p b c) * I % p = 1
    rw [Int.mul_comm, k3]
  · refine ⟨pscl p u (lastI (pquo p b c)), pscl p v (lastI (pquo p b c)), pscl p w (lastI (pquo p b c)), ?_⟩
    simp only [ps_pscl]
    have : ps p u * ps p (pquo p t c) + ps p v * ps p (pquo p s c) + ps p w * ps p (pquo p b c) = 1 := PS.cancel hp hcn (by
      rw [show (1 : PZ p) * ps p c = ps p c by grind]
      have : (ps p u * ps p (pquo p t c) + ps p v * ps p (pquo p s c) + ps p w * ps p (pquo p b c)) * ps p c = ps p u * (ps p (pquo p t c) * ps p c) + ps p v * (ps p (pquo p s c) * ps p c) + ps p w * (ps p (pquo p b c) * ps p c) := by grind
      rw [this, ← e1, ← e2, ← e3, hz])
    grind
  · rw [ps_pscl]
    intro z
    apply hcn
    have : ps p c = PS.C (ZM.mk p I) * (PS.C (ZM.mk p (lastI (pquo p b c))) * ps p c) := by grind
    rw [this, z]; grind
  · simp only [ps_pscl]; rw [e1]; grind
  · simp only [ps_pscl]; rw [e2]; grind
  · simp only [ps_pscl]; rw [e3]; grind
theorem dvd_monic (hp : Pm p) {a b x y : List Int} (na : Nrm p a) (nb : Nrm p b) (ha : a ≠ []) (hb : b ≠ []) (ma : lastI a = 1) (mb : lastI b = 1) (h1 : ps p a = ps p x * ps p b) (h2 : ps p b = ps p y * ps p a) : a = b := by
  obtain ⟨x', nx, hx⟩ := nrmz hp.pos x
  obtain ⟨y', ny, hy⟩ := nrmz hp.pos y
  rw [← hx] at h1
  rw [← hy] at h2
  have xe : x' ≠ [] := by intro z; rw [z, ps_nil] at h1; exact ps_ne hp.pos na ha (by rw [h1]; grind)
  have ye : y' ≠ [] := by intro z; rw [z, ps_nil] at h2; exact ps_ne hp.pos nb hb (by rw [h2]; grind)
  have e1 : a = pmul p x' b := ps_inj hp.pos na (trim_nrm hp.pos _) (by rw [h1, ps_pmul])
  have e2 : b = pmul p y' a := ps_inj hp.pos nb (trim_nrm hp.pos _) (by rw [h2, ps_pmul])
  have l1 := pmul_len3 hp nx nb xe hb
  have l2 := pmul_len3 hp ny na ye ha
  rw [← e1] at l1
  rw [← e2] at l2
  have := List.length_pos_iff.mpr xe
  have := List.length_pos_iff.mpr ye
  have := List.length_pos_iff.mpr ha
  have := List.length_pos_iff.mpr hb
  have hx1 : x'.length = 1 := by omega
  obtain ⟨c, hc⟩ : ∃ c, x' = [c] := by
    match x', hx1 with
    | [c], _ => exact ⟨c, rfl⟩
  have pl := (pmul_last hp nx nb xe hb).2
  rw [← e1, ma, mb, hc] at pl
  have hcb := nx.1 c (by rw [hc]; simp)
  have : c = 1 := by
    have : lastI [c] * 1 % p = c := by
      show c * 1 % p = c
      rw [Int.mul_one]
      exact Int.emod_eq_of_lt hcb.1 hcb.2
    omega
  rw [hc, this, ps_one] at h1
  exact ps_inj hp.pos na nb (by rw [h1]; grind)
theorem least_uniq (hp : Pm p) {T U : Tri} (hT : LsOk p T) (hU : LsOk p U) (h1 : ps p T.1 * ps p U.2.2 = ps p U.1 * ps p T.2.2) (h2 : ps p T.2.1 * ps p U.2.2 = ps p U.2.1 * ps p T.2.2) : T = U := by
  obtain ⟨t, s, b⟩ := T
  obtain ⟨t', s', b'⟩ := U
  obtain ⟨u, v, w, hz⟩ := hT.bz
  obtain ⟨u', v', w', hz'⟩ := hU.bz
  simp only at h1 h2 hz hz'
  have eb : b = b' := by
    refine dvd_monic hp hT.n3 hU.n3 hT.ne hU.ne hT.mo hU.mo (x := padd p (padd p (pmul p u' t) (pmul p v' s)) (pmul p w' b)) (y := padd p (padd p (pmul p u t') (pmul p v s')) (pmul p w b')) ?_ ?_
    · simp only [ps_padd, ps_pmul]
      have : ps p b = ps p b * (ps p u' * ps p t' + ps p v' * ps p s' + ps p w' * ps p b') := by rw [hz']; grind
      rw [this]; grind
    · simp only [ps_padd, ps_pmul]
      have : ps p b' = ps p b' * (ps p u * ps p t + ps p v * ps p s + ps p w * ps p b) := by rw [hz]; grind
      rw [this]; grind
  subst eb
  have hbn := ps_ne hp.pos hT.n3 hT.ne
  have e1 := ps_inj hp.pos hT.n1 hU.n1 (PS.cancel hp hbn h1)
  have e2 := ps_inj hp.pos hT.n2 hU.n2 (PS.cancel hp hbn h2)
  simp only at e1 e2
  rw [e1, e2]
/-- the least form of parts, as told by any fraction equal to it -/
theorem least_eq (hp : Pm p) {t s b : List Int} (nt : Nrm p t) (ns : Nrm p s) (nb : Nrm p b) (hb : b ≠ []) {U : Tri} (hU : LsOk p U) (h1 : ps p t * ps p U.2.2 = ps p U.1 * ps p b) (h2 : ps p s * ps p U.2.2 = ps p U.2.1 * ps p b) : leastT p t s b = U := by
  obtain ⟨ok, k, hk, k1, k2, k3⟩ := least_ok hp nt ns nb hb
  refine least_uniq hp ok hU ?_ ?_
  · refine PS.cancel hp hk ?_
    rw [k1, k3] at h1
    grind
  · refine PS.cancel hp hk ?_
    rw [k2, k3] at h2
    grind
/-- cross products with the least form -/
theorem least_cross (hp : Pm p) {t s b : List Int} (nt : Nrm p t) (ns : Nrm p s) (nb : Nrm p b) (hb : b ≠ []) : ps p (leastT p t s b).1 * ps p b = ps p t * ps p (leastT p t s b).2.2 ∧ ps p (leastT p t s b).2.1 * ps p b = ps p s * ps p (leastT p t s b).2.2 := by
  obtain ⟨ok, k, hk, k1, k2, k3⟩ := least_ok hp nt ns nb hb
  rw [k1, k2, k3]
  constructor <;> grind
theorem least_len {t s b : List Int} : (leastT p t s b).1.length ≤ t.length + 1 ∧ (leastT p t s b).2.1.length ≤ s.length + 1 ∧ (leastT p t s b).2.2.length ≤ b.length + 1 := by
  unfold leastT
  refine ⟨?_, ?_, ?_⟩ <;> refine Nat.le_trans pscl_len (Nat.le_trans pquo_len (by omega))
end
/-! ### functions -/
def fnD (K : Fg) (c : Int × List Int) (t : Tri) : D := .ins (He.ga K "Function") ["_curve", "_parts"] [cvD K c, lsD inD [t.1, t.2.1, t.2.2]]
abbrev Sz (n : Nat) (t : Tri) : Prop := t.1.length ≤ n ∧ t.2.1.length ≤ n ∧ t.2.2.length ≤ n
end Cw
set_option maxHeartbeats 4000000
namespace Cw
open PySem PySem.Spec PyProof.Rows L2
open C8 (Cal Met Mak)
/-! ### the own == of a class -/
def Rown (K : Fg) (P : List D → D → Prop) : Addr → Addr → Hp → Prop := fun a b H => ∃ d, P [d, d] (.bl true) ∧ Rep K H d (.ref a) ∧ Rep K H d (.ref b)
theorem opOwn {X : Cx} {K : Fg} {j k : Nat} {C : Addr} {P : List D → D → Prop} (c : Met X.prog X.w X.K X.mg X.base k C "__eq__" (spD K P) []) (hr : Room j X.A) (hk : k ≤ j) (h : X.K = K := by rfl) : OpR X (compareOp .Eq) (rEqG (DIns C (Rown K P))) := by
  cases h
  obtain ⟨f, fd, ps, ds, hc, hm, F, b, d⟩ := c.ex
  cases d
  have F' : FnOk X.prog X.w X.K X.mg X.base C8.CX0 k f fd ps (spEq (Rown X.K P)) := F.imp fun vs H Q E q => by
    obtain ⟨a, b, rfl, ⟨d, p, r1, r2⟩, q⟩ := q
    refine ⟨H, [d, d], .bl true, Same.refl _, Reps.cons r1 (Reps.one r2), p, fun v F' H' t r => ?_⟩
    cases r
    exact q H' t.hh
  exact op_eqG (rcG_ins (E := C8.E0) F' hm.at_ hm.fn b C8.pass0) (hr.mono hk)
section
variable {K : Fg} {G : Ctx} {te ta tb tc tl ts : TE} {d e : D} {ds : List D} {C : Addr} {ns : List Str}
theorem ev_own {P : List D → D → Prop} (ha : EvD K ta G (.ins C ns ds)) (hb : EvD K tb G (.ins C ns ds)) (p : P [.ins C ns ds, .ins C ns ds] (.bl true)) : EvD K (tOp (rEqG (DIns C (Rown K P))) ta tb) G (.bl true) := fun F0 H0 F H σ s Q q =>
  ha F0 H0 F H σ s _ fun v F1 H1 t1 r1 => hb F0 H0 F1 H1 σ (s.step t1) _ fun u F2 H2 t2 r2 => by
    have r1' := Rep.mono (t2.ff.trans t2.fh) _ _ r1
    have r2' := Rep.mono t2.fh _ _ r2
    obtain ⟨a, da, us, rfl, a1, a2, a3⟩ := id r1'
    obtain ⟨b, db, ws, rfl, b1, b2, b3⟩ := id r2'
    refine ⟨⟨a, b, da, db, _, _, rfl, rfl, a1, b1, _, p, r1', r2'⟩, fun H' x => q _ F2 H' ((t1.trans t2).trans ⟨Same.refl _, x, t2.fh.trans x, fun _ n => .inl n⟩) rfl⟩
end
/-! ### xs[f::p] -/
def pickA {α : Type} (xs : List α) (f p : Int) : List α := (sliceRange (sliceBounds (some f) none (some p) xs.length).1 (sliceBounds (some f) none (some p) xs.length).2.1 (sliceBounds (some f) none (some p) xs.length).2.2).filterMap (xs[·]?)
def tStepL (K : Fg) (te tl ts : TE) : TE := fun σ H Q => te σ H fun x H1 => tPart tl σ H1 fun l H2 => tPart ts σ H2 fun c H3 => ∃ a xs f p, x = .ref a ∧ l = some f ∧ c = some p ∧ 0 < p ∧ SqL K H3 a xs ∧ (pickA xs f p).length ≤ xs.length ∧ ∀ q, H3 q = none → Q (.ref q) (upd H3 q (.lst (pickA xs f p)))
theorem vals_fm {xs : List V} {us : List Value} (r : Vals xs us) : ∀ is : List Nat, Vals (is.filterMap (xs[·]?)) (is.filterMap (us[·]?))
  | [] => .nil
  | i :: is => by
    rw [List.filterMap_cons, List.filterMap_cons]
    by_cases h : i < xs.length
    · obtain ⟨u, hu, ru⟩ := r.get (List.getElem?_eq_getElem h)
      rw [List.getElem?_eq_getElem h, hu]
      exact .cons ru (vals_fm r is)
    · rw [List.getElem?_eq_none (by omega), List.getElem?_eq_none (by rw [← r.length]; omega)]
      exact vals_fm r is
theorem pe_stepL {X : Cx} {e lo st : Expr} {te tl ts : TE} {p3 pos : Pos} (K : Fg) (he : PE X e te) (hl : PE X lo tl) (hs : PE X st ts) (h : X.K = K := by rfl) : PE X (.Subscript e (.Slice (some lo) none (some st) p3) pos) (tStepL K te tl ts) := by
  cases h
  refine ⟨fun pins s σ H Q I h => ?_⟩
  refine Subscript_ (thn (he.run pins s σ H _ I h) fun v s1 ⟨x, H1, I1, r1, q1⟩ => ?_)
  refine wpAny_Slice (thn ((po_some hl).run pins s1 σ H1 _ I1 q1) fun vl s2 ⟨l, H2, I2, pl, q2⟩ => ?_)
  refine thn (po_none.run pins s2 σ H2 (fun o H3 => o = none ∧ H3 = H2) I2 ⟨rfl, rfl⟩) fun vu s3 ⟨u, H3, I3, pu, eu, e3⟩ => ?_
  subst eu e3
  refine thn ((po_some hs).run pins s3 σ H3 _ I3 q2) fun vs s4 ⟨o, H4, I4, ps, q4⟩ => ?_
  obtain ⟨a, xs, f, p, ex, el, eo, hp, hx, hlen2, q⟩ := q4
  subst ex el eo
  cases r1
  have I5 : Inv X pins σ H4 { s4 with heap := s4.heap.push { cls := .type "slice", data := .fields #[vl, vu, vs] } } := I4.kept (t' := s4.toks) fun b ob q => Heap.get?_push_of_some _ q
  obtain ⟨its, r, ht, hz⟩ := I5.list hx
  have hlen := r.length
  show wpAny (model X.prog X.w) X.A (subscriptTail e (.Slice (some lo) none (some st) p3) (.ref a) (.ref s4.heap.objs.size)) (EP X pins σ Q) X.xe { s4 with heap := s4.heap.push { cls := .type "slice", data := .fields #[vl, vu, vs] } }
  refine tail_any (ops := [.ref a, .ref s4.heap.objs.size]) ht.isList.typeIs (PySem.slot_list_getitem.lookup) ?_ (by with_unfolding_all rfl)
  refine wpAny_getItem_list_slice ht.isList (Heap.IsSliceOf.new _ vl vu vs) pl pu ps (by intro z; cases z; omega) ?_ (by rw [List.size_toArray]; omega)
  refine ⟨.ref _, _, I5.laid (t' := s4.toks) (o := .lst (pickA xs f p)) (fun b ob q => Heap.get?_push_of_some _ q) (Nat.le_refl _) ?_, rfl, q _ (I5.hok.fresh (Nat.le_refl _))⟩
  refine ⟨Nat.le_trans hlen2 hz, _, 0, ?_, Heap.get?_push_size _ rfl⟩
  have h1 : its.toArray.size = xs.length := by rw [List.size_toArray]; exact hlen.symm
  rw [h1]
  have := vals_fm r (sliceRange (sliceBounds (some f) none (some p) xs.length).1 (sliceBounds (some f) none (some p) xs.length).2.1 (sliceBounds (some f) none (some p) xs.length).2.2)
  simpa [pickA] using this
section
variable {K : Fg} {G : Ctx} {te ta tb tc tl ts : TE} {d e : D} {ds : List D}
theorem Reps.fm {F : Hp} {ds : List D} {vs : List V} (r : Reps K F ds vs) : ∀ is : List Nat, Reps K F (is.filterMap (ds[·]?)) (is.filterMap (vs[·]?))
  | [] => rfl
  | i :: is => by
    rw [List.filterMap_cons, List.filterMap_cons]
    by_cases h : i < ds.length
    · obtain ⟨u, hu, ru⟩ := r.get (List.getElem?_eq_getElem h)
      rw [List.getElem?_eq_getElem h, hu]
      exact Reps.cons ru (Reps.fm r is)
    · rw [List.getElem?_eq_none (by omega), List.getElem?_eq_none (by rw [r.len]; omega)]
      exact Reps.fm r is
theorem pickA_len {α : Type} {xs : List α} {f p : Int} (hp : 0 < p) : (pickA xs f p).length ≤ xs.length := by
  refine Nat.le_trans (List.length_filterMap_le ..) (sliceRange_length_le _ _ _ _ (fun _ => ?_) fun h => ?_)
  · simp only [sliceBounds, Option.getD_some, hp, gt_iff_lt, if_true]
    omega
  · simp only [sliceBounds, Option.getD_some] at h
    omega
theorem pickA_map {α β : Type} (g : α → β) (xs : List α) (f p : Int) : pickA (xs.map g) f p = (pickA xs f p).map g := by
  unfold pickA
  rw [List.length_map, List.map_filterMap]
  congr 1
  funext i
  rw [List.getElem?_map]
theorem en_step {xs : List D} {f p : Int} (hp : 0 < p) (h : EvD K te G (.lst xs)) (h1 : EvD K tl G (.int f)) (h2 : EvD K ts G (.int p)) : EvN K (tStepL K te tl ts) G (pickA xs f p) := fun F0 H0 F H σ s Q q =>
  h F0 H0 F H σ s _ fun v F1 H1 t1 r1 => h1 F0 H0 F1 H1 σ (s.step t1) _ fun x F2 H2 t2 r2 => ⟨f, r2, h2 F0 H0 F2 H2 σ ((s.step t1).step t2) _ fun y F3 H3 t3 r3 => ⟨p, r3, by
    obtain ⟨a, us, rfl, h3, h4⟩ := r1
    have t := t2.trans t3
    have h5 := Reps.mono t.ff _ _ h4
    refine ⟨a, us, f, p, rfl, rfl, rfl, hp, .inl (.inl (t.hh _ _ (t1.fh _ _ h3))), pickA_len hp, fun l hl => q l _ F3 _ ((t1.trans t).trans (Step.newP t3.fh hl)) ((t1.trans t).hh.free hl) (t3.fh.free hl) upd_same ?_⟩
    unfold pickA
    rw [h5.len]
    exact h5.fm _⟩⟩
theorem en_stepT {α : Type} {enc : α → D} {xs : List α} {f p : Int} (hp : 0 < p) (h : EvD K te G (lsD enc xs)) (h1 : EvD K tl G (.int f)) (h2 : EvD K ts G (.int p)) : EvN K (tStepL K te tl ts) G ((pickA xs f p).map enc) := by
  rw [← pickA_map]
  exact en_step hp h h1 h2
/-- what stands in it -/
theorem range_fm {α : Type} (xs : List α) (f p n : Nat) (h : ∀ k, k < n → f + p * k < xs.length) : ∀ k, ((List.range n).filterMap fun i => xs[f + p * i]?)[k]? = if k < n then xs[f + p * k]? else none := by
  induction n with
  | zero => intro k; simp
  | succ n ih =>
    intro k
    have hn := h n (Nat.lt_succ_self n)
    have ih' := ih fun k hk => h k (by omega)
    have hl : ((List.range n).filterMap fun i => xs[f + p * i]?).length = n := by
      have a : ((List.range n).filterMap fun i => xs[f + p * i]?)[n]? = none := by rw [ih', if_neg (by omega)]
      have a' := List.getElem?_eq_none_iff.mp a
      by_cases z : n = 0
      · subst z; rfl
      · have b : ((List.range n).filterMap fun i => xs[f + p * i]?)[n - 1]? ≠ none := by
          rw [ih', if_pos (by omega), List.getElem?_eq_getElem (h (n - 1) (by omega))]
          exact fun z => nomatch z
        have : ¬ ((List.range n).filterMap fun i => xs[f + p * i]?).length ≤ n - 1 := fun q => b (List.getElem?_eq_none q)
        omega
    rw [List.range_succ, List.filterMap_append]
    have e1 : ([n].filterMap fun i => xs[f + p * i]?) = [xs[f + p * n]] := by
      rw [List.filterMap_cons, List.getElem?_eq_getElem hn]; rfl
    rw [e1]
    by_cases q : k < n
    · rw [List.getElem?_append_left (by omega), ih', if_pos q, if_pos (by omega)]
    · by_cases z : k = n
      · subst z
        rw [List.getElem?_append_right (by omega), hl, if_pos (by omega), List.getElem?_eq_getElem hn, Nat.sub_self]
        rfl
      · rw [if_neg (by omega), List.getElem?_eq_none]
        rw [List.length_append, hl]
        show n + 1 ≤ k
        omega
theorem pickA_get {α : Type} {xs : List α} {f p : Nat} (hp : 0 < p) (k : Nat) : (pickA xs (f : Int) (p : Int))[k]? = xs[f + p * k]? := by
  have hp' : (p : Int) > 0 := by omega
  have key : ∃ n : Nat, pickA xs (f : Int) (p : Int) = ((List.range n).filterMap fun i => xs[f + p * i]?) ∧ (∀ k, k < n ↔ f + p * k < xs.length) := by
    by_cases hf : f < xs.length
    · refine ⟨((xs.length - f + p - 1) / p), ?_, fun k => ?_⟩
      · unfold pickA
        simp only [sliceBounds, Option.getD_some, hp', if_true, show ¬ (f : Int) < 0 by omega, if_false]
        rw [show max (0 : Int) (min (f : Int) (xs.length : Int)) = (f : Int) by omega]
        unfold sliceRange
        simp only [hp', if_true, show (f : Int) < (xs.length : Int) by omega]
        rw [show ((xs.length : Int) - f + p - 1) = ((xs.length - f + p - 1 : Nat) : Int) by omega, ← Int.natCast_ediv, Int.toNat_natCast, List.filterMap_map]
        congr 1
      · rw [← Nat.succ_le_iff, Nat.le_div_iff_mul_le hp, Nat.succ_mul, Nat.mul_comm k p]
        omega
    · refine ⟨0, ?_, fun k => by omega⟩
      unfold pickA
      simp only [sliceBounds, Option.getD_some, hp', if_true, show ¬ (f : Int) < 0 by omega, if_false]
      unfold sliceRange
      simp only [hp', if_true]
      rw [if_neg (by omega)]
      rfl
  obtain ⟨n, e, h⟩ := key
  rw [e, range_fm xs f p n fun k hk => (h k).mp hk]
  split
  · rfl
  · rename_i z
    have : ¬ f + p * k < xs.length := fun y => z ((h k).mpr y)
    exact (List.getElem?_eq_none (by omega)).symm
theorem pick_cf {l : List Int} {f p : Nat} (hp : 0 < p) (k : Nat) : cf (pickA l (f : Int) (p : Int)) k = cf l (f + p * k) := by
  unfold cf
  first
    | rw [pickA_get hp]
    | simp [List.getD_eq_getElem?_getD, pickA_get hp]
/-! ### unpacking a list -/
theorem tg_unl {gs : TGs} {n : Nat} {G1 : Ctx} {is : List Nat} (k : TgDs K gs ds G G1 is) (hn : ds.length = n) : TgD K (gUnl K n gs) (.lst ds) G G1 is := fun F0 H0 F H σ x s r Q q => by
  obtain ⟨a, vs, rfl, h1, h2⟩ := r
  exact ⟨a, vs, rfl, .inl (.inl (s.fh _ _ h1)), by rw [h2.len]; exact hn, k F0 H0 F H σ vs s h2 Q q⟩
end
theorem pgl {X : Cx} (K : Fg) {es : List Expr} {k : Nat} {t : TGs} {n : Nat} {pos : Pos} (hc : X.calm = true) (h : PGs X es t)
    (hn : (assignEach es X.env).length = n := by rfl) (hst : (assignEach es X.env).findIdx? (·.1) = none := by rfl) (hk : X.K = K := by rfl) : PG X (.Tuple es k pos) (gUnl K n t) := by cases hk; exact pg_unl hc h hn hst
end Cw
set_option maxHeartbeats 4000000
namespace Cw
open PySem PySem.Spec PyProof.Rows L2
/-! ### what functions.py, parts.py, slopes.py compute -/
abbrev Cur : Type := Int × List Int
def fPlus (c : Cur) (T U : Tri) : Tri := leastT c.1 (padd c.1 (pmul c.1 T.1 U.2.2) (pmul c.1 U.1 T.2.2)) (padd c.1 (pmul c.1 T.2.1 U.2.2) (pmul c.1 U.2.1 T.2.2)) (pmul c.1 T.2.2 U.2.2)
def fOpp (c : Cur) (T : Tri) : Tri := leastT c.1 (pneg c.1 T.1) (pneg c.1 T.2.1) T.2.2
def fMinus (c : Cur) (T U : Tri) : Tri := fPlus c T (fOpp c U)
def fTimes (c : Cur) (T U : Tri) : Tri := leastT c.1 (padd c.1 (pmul c.1 T.1 U.1) (pmul c.1 (pmul c.1 T.2.1 U.2.1) c.2)) (padd c.1 (pmul c.1 T.1 U.2.1) (pmul c.1 T.2.1 U.1)) (pmul c.1 T.2.2 U.2.2)
def fNorm (c : Cur) (T : Tri) : List Int := psub c.1 (pmul c.1 T.1 T.1) (pmul c.1 (pmul c.1 T.2.1 T.2.1) c.2)
def rpC (s : Tri × Tri × Int) : Bool := decide (0 < s.2.2)
def rpS (c : Cur) (s : Tri × Tri × Int) : Tri × Tri × Int := (if s.2.2 % 2 = 1 then fTimes c s.1 s.2.1 else s.1, fTimes c s.2.1 s.2.1, s.2.2 / 2)
def fOne (c : Cur) : Tri := leastT c.1 [1] [] [1]
def fRaised (c : Cur) (T : Tri) (n : Int) : Tri := (whileN rpC (rpS c) n.toNat (fOne c, T, n)).1
def fSlope (c : Cur) (T : Tri) : Tri :=
  leastT c.1
    (pmul c.1 (psub c.1 (pmul c.1 (pder c.1 T.1) T.2.2) (pmul c.1 T.1 (pder c.1 T.2.2))) (pscl c.1 c.2 2))
    (padd c.1 (pmul c.1 (psub c.1 (pmul c.1 (pder c.1 T.2.1) T.2.2) (pmul c.1 T.2.1 (pder c.1 T.2.2))) (pscl c.1 c.2 2)) (pmul c.1 (pmul c.1 T.2.1 (pder c.1 c.2)) T.2.2))
    (pmul c.1 (pmul c.1 T.2.2 T.2.2) (pscl c.1 c.2 2))
def fLow (c : Cur) (T : Tri) : List Int := pmul c.1 T.1 (ppow c.1 T.2.2 (c.1 - 1).toNat)
def fHigh (c : Cur) (T : Tri) : List Int := pmul c.1 (pmul c.1 T.2.1 (ppow c.1 T.2.2 (c.1 - 1).toNat)) (ppow c.1 c.2 ((c.1 + 1) / 2).toNat)
def pEvery (p : Int) (l : List Int) (i : Int) : List Int := trim p (pickA l i p)
def fPart (c : Cur) (T : Tri) (i : Int) : Tri := leastT c.1 (pmul c.1 (pEvery c.1 (fLow c T) i) c.2) (pEvery c.1 (fHigh c T) i) (pmul c.1 T.2.2 c.2)
def fParts (c : Cur) (T : Tri) : List Tri := (rangeI 0 c.1.toNat).map (fPart c T)
def fLast (c : Cur) (T : Tri) : Tri := fPart c T (c.1 - 1)
def stF (p : Int) (l : List Int) : List Int := (enumI l).foldl (fun s q => s.set (p * q.1).toNat q.2) (List.replicate (p * ((l.length : Int) - 1) + 1).toNat 0)
def pStretch (p : Int) (l : List Int) : List Int := if l = [] then [] else stF p l
def srF (p : Int) (l : List Int) : List Int := (enumI l).foldl (fun s q => if q.2 = 0 then s else s.set (q.1 + 1).toNat (q.2 * pinv p (q.1 % p + 1))) (List.replicate ((l.length : Int) + 1).toNat 0)
def pSrc (p : Int) (l : List Int) : List Int := trim p (srF p l)
def fSrc (c : Cur) (T : Tri) : Tri := leastT c.1 (pmul c.1 (pSrc c.1 (fLow c T)) (ppow c.1 c.2 ((c.1 + 1) / 2).toNat)) (pSrc c.1 (fHigh c T)) (pmul c.1 (pStretch c.1 T.2.2) (ppow c.1 c.2 ((c.1 + 1) / 2).toNat))
def nought (T : Tri) : Prop := T.1 = [] ∧ T.2.1 = []
instance (T : Tri) : Decidable (nought T) := inferInstanceAs (Decidable (_ ∧ _))
/-! ### sizes, least forms -/
structure FnIn (c : Cur) (T : Tri) (n : Nat) : Prop where
  ls : LsOk c.1 T
  sz : Sz n T
section
variable {c : Cur} {T U : Tri} {n m : Nat} {p : Int}
theorem FnIn.mono (h : FnIn c T n) (k : n ≤ m) : FnIn c T m := ⟨h.ls, Nat.le_trans h.sz.1 k, Nat.le_trans h.sz.2.1 k, Nat.le_trans h.sz.2.2 k⟩
theorem CvOk.pos (h : CvOk c) : 0 < c.1 := h.pm.pos
theorem CvOk.len (h : CvOk c) : c.2.length ≤ 8 := by rcases h.ln with h | h | h | h <;> omega
theorem CvOk.ne (h : CvOk c) : c.2 ≠ [] := fun z => by
  have := h.ln
  rw [z] at this
  simp at this
theorem pmul_ne (hp : Pm p) {a b : List Int} (na : Nrm p a) (nb : Nrm p b) (ha : a ≠ []) (hb : b ≠ []) : pmul p a b ≠ [] := (pmul_last hp na nb ha hb).1
theorem least_in (hc : CvOk c) {t s b : List Int} (nt : Nrm c.1 t) (ns : Nrm c.1 s) (nb : Nrm c.1 b) (hb : b ≠ []) (h1 : t.length ≤ n) (h2 : s.length ≤ n) (h3 : b.length ≤ n) : FnIn c (leastT c.1 t s b) (n + 1) := by
  have l := least_len (p := c.1) (t := t) (s := s) (b := b)
  exact ⟨(least_ok hc.pm nt ns nb hb).1, by omega, by omega, by omega⟩
theorem ppow_nrm (hp : 1 < p) {a : List Int} : ∀ n : Nat, Nrm p (ppow p a n)
  | 0 => ⟨fun x hx => by simp [ppow] at hx; omega, fun _ => by show (1 : Int) ≠ 0; decide⟩
  | n + 1 => trim_nrm (by omega) _
theorem ps_ppow {a : List Int} : ∀ n : Nat, ps p (ppow p a n) = ps p a ^ n
  | 0 => by
    show ps p [1] = _
    rw [ps_one]; grind
  | n + 1 => by
    show ps p (pmul p (ppow p a n) a) = _
    rw [ps_pmul, ps_ppow n]; grind
theorem ppow_ne (hp : Pm p) {a : List Int} (na : Nrm p a) (ha : a ≠ []) : ∀ n : Nat, ppow p a n ≠ []
  | 0 => by simp [ppow]
  | n + 1 => by
    have := hp.ge
    exact pmul_ne hp (ppow_nrm (by omega) n) na (ppow_ne hp na ha n) ha
theorem two_nrm (hp : Pm p) : Nrm p [2] := by
  have := hp.ge
  exact ⟨fun x hx => by simp at hx; omega, fun _ => by show (2 : Int) ≠ 0; decide⟩
theorem one_nrm (hp : Pm p) : Nrm p [1] := by
  have := hp.ge
  exact ⟨fun x hx => by simp at hx; omega, fun _ => by show (1 : Int) ≠ 0; decide⟩
theorem twice_ne (hp : Pm p) {f : List Int} (nf : Nrm p f) (hf : f ≠ []) : pscl p f 2 ≠ [] := by
  have e : pscl p f 2 = pmul p f [2] := ps_inj hp.pos (trim_nrm hp.pos _) (trim_nrm hp.pos _) (by rw [ps_pscl, ps_pmul, cst]; grind)
  rw [e]
  exact pmul_ne hp nf (two_nrm hp) hf (by simp)
theorem fPlus_in (hc : CvOk c) (hT : FnIn c T n) (hU : FnIn c U m) : FnIn c (fPlus c T U) (n + m + 1) := by
  have a1 := hT.sz
  have a2 := hU.sz
  have l1 := pmul_len (p := c.1) (a := T.1) (b := U.2.2)
  have l2 := pmul_len (p := c.1) (a := U.1) (b := T.2.2)
  have l3 := pmul_len (p := c.1) (a := T.2.1) (b := U.2.2)
  have l4 := pmul_len (p := c.1) (a := U.2.1) (b := T.2.2)
  have l5 := pmul_len (p := c.1) (a := T.2.2) (b := U.2.2)
  exact least_in hc (trim_nrm hc.pos _) (trim_nrm hc.pos _) (trim_nrm hc.pos _) (pmul_ne hc.pm hT.ls.n3 hU.ls.n3 hT.ls.ne hU.ls.ne) (Nat.le_trans padd_len (by omega)) (Nat.le_trans padd_len (by omega)) (by omega)
theorem fOpp_in (hc : CvOk c) (hT : FnIn c T n) : FnIn c (fOpp c T) (n + 1) := by
  have a1 := hT.sz
  exact least_in hc (trim_nrm hc.pos _) (trim_nrm hc.pos _) hT.ls.n3 hT.ls.ne (Nat.le_trans pneg_len (by omega)) (Nat.le_trans pneg_len (by omega)) (by omega)
theorem fMinus_in (hc : CvOk c) (hT : FnIn c T n) (hU : FnIn c U m) : FnIn c (fMinus c T U) (n + (m + 1) + 1) := fPlus_in hc hT (fOpp_in hc hU)
theorem fTimes_in (hc : CvOk c) (hT : FnIn c T n) (hU : FnIn c U m) : FnIn c (fTimes c T U) (n + m + 9) := by
  have a1 := hT.sz
  have a2 := hU.sz
  have a3 := hc.len
  have l1 := pmul_len (p := c.1) (a := T.1) (b := U.1)
  have l2 := pmul_len (p := c.1) (a := T.2.1) (b := U.2.1)
  have l3 := pmul_len (p := c.1) (a := pmul c.1 T.2.1 U.2.1) (b := c.2)
  have l4 := pmul_len (p := c.1) (a := T.1) (b := U.2.1)
  have l6 := pmul_len (p := c.1) (a := T.2.1) (b := U.1)
  have l5 := pmul_len (p := c.1) (a := T.2.2) (b := U.2.2)
  exact least_in hc (trim_nrm hc.pos _) (trim_nrm hc.pos _) (trim_nrm hc.pos _) (pmul_ne hc.pm hT.ls.n3 hU.ls.n3 hT.ls.ne hU.ls.ne) (Nat.le_trans padd_len (by omega)) (Nat.le_trans padd_len (by omega)) (by omega)
theorem fOne_in (hc : CvOk c) : FnIn c (fOne c) 2 := by
  have := hc.pm.ge
  have n1 : Nrm c.1 [1] := ⟨fun x hx => by simp at hx; omega, fun _ => by show (1 : Int) ≠ 0; decide⟩
  exact least_in hc n1 nrm_nil n1 (by simp) (Nat.le_refl _) (Nat.zero_le _) (Nat.le_refl _)
theorem fSlope_in (hc : CvOk c) (hT : FnIn c T n) : FnIn c (fSlope c T) (2 * n + 17) := by
  have a1 := hT.sz
  have a3 := hc.len
  have d1 := pder_len (p := c.1) (a := T.1)
  have d2 := pder_len (p := c.1) (a := T.2.1)
  have d3 := pder_len (p := c.1) (a := T.2.2)
  have d4 := pder_len (p := c.1) (a := c.2)
  have tw := pscl_len (p := c.1) (a := c.2) (n := 2)
  have l1 := pmul_len (p := c.1) (a := pder c.1 T.1) (b := T.2.2)
  have l2 := pmul_len (p := c.1) (a := T.1) (b := pder c.1 T.2.2)
  have l3 := pmul_len (p := c.1) (a := pder c.1 T.2.1) (b := T.2.2)
  have l4 := pmul_len (p := c.1) (a := T.2.1) (b := pder c.1 T.2.2)
  have s1 := psub_len (p := c.1) (a := pmul c.1 (pder c.1 T.1) T.2.2) (b := pmul c.1 T.1 (pder c.1 T.2.2))
  have s2 := psub_len (p := c.1) (a := pmul c.1 (pder c.1 T.2.1) T.2.2) (b := pmul c.1 T.2.1 (pder c.1 T.2.2))
  have l5 := pmul_len (p := c.1) (a := T.2.1) (b := pder c.1 c.2)
  have l6 := pmul_len (p := c.1) (a := pmul c.1 T.2.1 (pder c.1 c.2)) (b := T.2.2)
  have l7 := pmul_len (p := c.1) (a := T.2.2) (b := T.2.2)
  refine least_in hc (trim_nrm hc.pos _) (trim_nrm hc.pos _) (trim_nrm hc.pos _) (pmul_ne hc.pm (trim_nrm hc.pos _) (trim_nrm hc.pos _) (pmul_ne hc.pm hT.ls.n3 hT.ls.n3 hT.ls.ne hT.ls.ne) (twice_ne hc.pm hc.nr hc.ne)) (n := 2 * n + 16) ?_ ?_ ?_
  · exact Nat.le_trans pmul_len (by omega)
  · refine Nat.le_trans padd_len (Nat.max_le.mpr ⟨Nat.le_trans pmul_len (by omega), by omega⟩)
  · exact Nat.le_trans pmul_len (by omega)
theorem fLow_len (hc : CvOk c) (hT : FnIn c T n) : (fLow c T).length ≤ 13 * n + 1 := by
  have a1 := hT.sz
  have := hc.pm.le
  have l := ppow_len (p := c.1) (a := T.2.2) (n := (c.1 - 1).toNat)
  have k : (c.1 - 1).toNat * T.2.2.length ≤ 12 * n := Nat.mul_le_mul (by omega) a1.2.2
  exact Nat.le_trans pmul_len (by omega)
theorem fHigh_len (hc : CvOk c) (hT : FnIn c T n) : (fHigh c T).length ≤ 13 * n + 58 := by
  have a1 := hT.sz
  have := hc.pm.le
  have l := ppow_len (p := c.1) (a := T.2.2) (n := (c.1 - 1).toNat)
  have k : (c.1 - 1).toNat * T.2.2.length ≤ 12 * n := Nat.mul_le_mul (by omega) a1.2.2
  have l2 := ppow_len (p := c.1) (a := c.2) (n := ((c.1 + 1) / 2).toNat)
  have k2 : ((c.1 + 1) / 2).toNat * c.2.length ≤ 7 * 8 := Nat.mul_le_mul (by omega) hc.len
  have l3 := pmul_len (p := c.1) (a := T.2.1) (b := ppow c.1 T.2.2 (c.1 - 1).toNat)
  exact Nat.le_trans pmul_len (by omega)
theorem pEvery_len {p : Int} {l : List Int} {i : Int} (hp : 0 < p) : (pEvery p l i).length ≤ l.length := Nat.le_trans trim_len (pickA_len hp)
theorem fPart_in (hc : CvOk c) (hT : FnIn c T n) (i : Int) : FnIn c (fPart c T i) (13 * n + 59) := by
  have a1 := hT.sz
  have a3 := hc.len
  have h1 := fLow_len hc hT
  have h2 := fHigh_len hc hT
  have h3 := pEvery_len (l := fLow c T) (i := i) hc.pos
  have h4 := pEvery_len (l := fHigh c T) (i := i) hc.pos
  exact least_in hc (trim_nrm hc.pos _) (trim_nrm hc.pos _) (trim_nrm hc.pos _) (pmul_ne hc.pm hT.ls.n3 hc.nr hT.ls.ne hc.ne) (n := 13 * n + 58) (Nat.le_trans pmul_len (by omega)) (by omega) (Nat.le_trans pmul_len (by omega))
end
/-! ### the promises -/
def p_Function___init__ (K : Fg) (ds : List D) (d : D) : Prop := ∃ c t s b, ds = [cvD K c, inD t, inD s, inD b] ∧ (CvOk c ∧ Nrm c.1 t ∧ Nrm c.1 s ∧ Nrm c.1 b ∧ b ≠ [] ∧ t.length ≤ 61 ∧ s.length ≤ 61 ∧ b.length ≤ 61) ∧ d = fnD K c (leastT c.1 t s b)
def p_Function_curve (K : Fg) (ds : List D) (d : D) : Prop := ∃ c T, ds = [fnD K c T] ∧ True ∧ d = cvD K c
def p_Function_top (K : Fg) (ds : List D) (d : D) : Prop := ∃ c T, ds = [fnD K c T] ∧ True ∧ d = inD T.1
def p_Function_side (K : Fg) (ds : List D) (d : D) : Prop := ∃ c T, ds = [fnD K c T] ∧ True ∧ d = inD T.2.1
def p_Function_bottom (K : Fg) (ds : List D) (d : D) : Prop := ∃ c T, ds = [fnD K c T] ∧ True ∧ d = inD T.2.2
def p_Function___eq__ (K : Fg) (ds : List D) (d : D) : Prop := ∃ c T, ds = [fnD K c T, fnD K c T] ∧ True ∧ d = .bl true
def p_least_parts (ds : List D) (d : D) : Prop := ∃ p t s b, ds = [.int p, inD t, inD s, inD b] ∧ (Pm p ∧ Nrm p t ∧ Nrm p s ∧ Nrm p b ∧ b ≠ [] ∧ t.length ≤ 200000 ∧ s.length ≤ 200000 ∧ b.length ≤ 200000) ∧ d = lsD inD [(leastT p t s b).1, (leastT p t s b).2.1, (leastT p t s b).2.2]
def p_made (K : Fg) (ds : List D) (d : D) : Prop := ∃ c t s b, ds = [cvD K c, inD t, inD s, inD b] ∧ (CvOk c ∧ Nrm c.1 t ∧ Nrm c.1 s ∧ Nrm c.1 b ∧ b ≠ [] ∧ t.length ≤ 200000 ∧ s.length ≤ 200000 ∧ b.length ≤ 200000) ∧ d = fnD K c (leastT c.1 t s b)
def p_parts_of (K : Fg) (ds : List D) (d : D) : Prop := ∃ c T, ds = [fnD K c T] ∧ True ∧ d = .tup [.int c.1, inD c.2, inD T.1, inD T.2.1, inD T.2.2]
def p_is_nought (K : Fg) (ds : List D) (d : D) : Prop := ∃ c T, ds = [fnD K c T] ∧ True ∧ d = .bl (decide (nought T))
def p_plus (K : Fg) (ds : List D) (d : D) : Prop := ∃ c T U, ds = [fnD K c T, fnD K c U] ∧ (CvOk c ∧ FnIn c T 20000 ∧ FnIn c U 20000) ∧ d = fnD K c (fPlus c T U)
def p_minus (K : Fg) (ds : List D) (d : D) : Prop := ∃ c T U, ds = [fnD K c T, fnD K c U] ∧ (CvOk c ∧ FnIn c T 10000 ∧ FnIn c U 10000) ∧ d = fnD K c (fMinus c T U)
def p_times (K : Fg) (ds : List D) (d : D) : Prop := ∃ c T U, ds = [fnD K c T, fnD K c U] ∧ (CvOk c ∧ FnIn c T 20000 ∧ FnIn c U 20000) ∧ d = fnD K c (fTimes c T U)
def p_opposite (K : Fg) (ds : List D) (d : D) : Prop := ∃ c T, ds = [fnD K c T] ∧ (CvOk c ∧ FnIn c T 20000) ∧ d = fnD K c (fOpp c T)
def p_norm_top (K : Fg) (ds : List D) (d : D) : Prop := ∃ c T, ds = [fnD K c T] ∧ (CvOk c ∧ FnIn c T 20000) ∧ d = inD (fNorm c T)
def p_back_of (K : Fg) (ds : List D) (d : D) : Prop := ∃ c T, ds = [fnD K c T] ∧ (CvOk c ∧ FnIn c T 20000 ∧ fNorm c T ≠ []) ∧ d = fnD K c (leastT c.1 (pmul c.1 T.1 T.2.2) (pneg c.1 (pmul c.1 T.2.1 T.2.2)) (fNorm c T))
def p_raised_to (K : Fg) (ds : List D) (d : D) : Prop := ∃ c T n, ds = [fnD K c T, .int n] ∧ (CvOk c ∧ FnIn c T 400 ∧ 0 ≤ n ∧ n ≤ 20) ∧ d = fnD K c (fRaised c T n)
def p_power_of_fn (K : Fg) (ds : List D) (d : D) : Prop := ∃ c T n, ds = [fnD K c T, .int n] ∧ (CvOk c ∧ FnIn c T 400 ∧ 0 ≤ n ∧ n ≤ 20) ∧ d = fnD K c (fRaised c T n)
def p_slope_by (K : Fg) (ds : List D) (d : D) : Prop := ∃ c T, ds = [fnD K c T] ∧ (CvOk c ∧ FnIn c T 10000) ∧ d = fnD K c (fSlope c T)
def p_slope (K : Fg) (ds : List D) (d : D) : Prop := p_slope_by K ds d
def p_check_function (K : Fg) (ds : List D) (d : D) : Prop := ∃ c T, ds = [fnD K c T] ∧ True ∧ d = .non
def p_check_both (K : Fg) (ds : List D) (d : D) : Prop := ∃ c T U, ds = [fnD K c T, fnD K c U] ∧ True ∧ d = .non
def p_sum_of (K : Fg) (ds : List D) (d : D) : Prop := p_plus K ds d
def p_less_of (K : Fg) (ds : List D) (d : D) : Prop := p_minus K ds d
def p_every (ds : List D) (d : D) : Prop := ∃ p l i, ds = [.int p, inD l, .int i] ∧ (0 < p ∧ l.length ≤ LM) ∧ d = inD (pEvery p l i)
def p_tops_over (K : Fg) (ds : List D) (d : D) : Prop := ∃ c T, ds = [fnD K c T] ∧ (CvOk c ∧ FnIn c T 3000) ∧ d = .tup [inD (fLow c T), inD (fHigh c T)]
def p_parts_by (K : Fg) (ds : List D) (d : D) : Prop := ∃ c T, ds = [fnD K c T] ∧ (CvOk c ∧ FnIn c T 3000) ∧ d = lsD (fnD K c) (fParts c T)
def p_parts (K : Fg) (ds : List D) (d : D) : Prop := p_parts_by K ds d
def p_descent_by (K : Fg) (ds : List D) (d : D) : Prop := ∃ c T, ds = [fnD K c T] ∧ (CvOk c ∧ FnIn c T 3000) ∧ d = fnD K c (fLast c T)
def p_descent (K : Fg) (ds : List D) (d : D) : Prop := p_descent_by K ds d
def p_stretched (ds : List D) (d : D) : Prop := ∃ p l, ds = [.int p, inD l] ∧ (0 < p ∧ p ≤ 13 ∧ l.length ≤ 10000) ∧ d = inD (pStretch p l)
def p_raised_source (ds : List D) (d : D) : Prop := ∃ p l, ds = [.int p, inD l] ∧ (Pm p ∧ Nrm p l ∧ l.length ≤ 100000 ∧ ∀ k : Nat, (k : Int) % p = p - 1 → cf l k = 0) ∧ d = inD (pSrc p l)
def p_slope_source (K : Fg) (ds : List D) (d : D) : Prop := ∃ c T, ds = [fnD K c T] ∧ (CvOk c ∧ FnIn c T 3000) ∧ d = if nought (fLast c T) then fnD K c (fSrc c T) else .non
def p_whose_slope (K : Fg) (ds : List D) (d : D) : Prop := p_slope_source K ds d
end Cw
set_option maxHeartbeats 4000000
namespace Cw
open PySem PySem.Spec PyProof.Rows L2
section
variable {K : Fg} {G : Ctx} {te ta tb tc tv : TE} {tt tu : TT} {tr : TA} {t u r : TS} {d e : D} {ds fs : List D} {ns : List Str} {C : Addr}
theorem SOk.setUn {F0 H0 F H : Hp} {σ : L2.St} (s : SOk K F0 H0 F H σ G) {j : Nat} (o : Option V) (h : G[j]? = some .un) : SOk K F0 H0 F H (σ.set j o) G where
  st := s.st
  len := by rw [List.length_set]; exact s.len
  sl := fun i c e => by
    by_cases q : j = i
    · subst q
      rw [h] at e
      cases e
      have hl : j < σ.length := by rw [s.len]; exact (List.getElem?_eq_some_iff.mp h).1
      exact ⟨o, by rw [List.getElem?_set_self hl], trivial⟩
    · rw [List.getElem?_set_ne q]; exact s.sl i c e
  ap := fun i k es gs a e1 e2 h1 h2 => by
    have ni : j ≠ i := fun z => by subst z; rw [h] at e1; cases e1
    have nk : j ≠ k := fun z => by subst z; rw [h] at e2; cases e2
    rw [List.getElem?_set_ne ni] at h1
    rw [List.getElem?_set_ne nk] at h2
    exact s.ap i k es gs a e1 e2 h1 h2
theorem weak_set {j : Nat} {c : Sl} (h : G[j]? = some .un) : Weak (G.set j c) G := ⟨List.length_set, fun i s e => by
  by_cases q : j = i
  · subst q; rw [h] at e; cases e; exact .inl rfl
  · exact .inr (by rw [List.getElem?_set_ne q]; exact e)⟩
/-- for x in things: f(x), the slots as they are but x -/
theorem raw_for {wi : TI} {j : Nat} {F0 H0 F H : Hp} {σ : L2.St} {E : Ends} (hu : G[j]? = some .un) (hi : ItD K wi G ds) (hb : ∀ d, d ∈ ds → ∃ e, EvD K te (G.set j (.val d)) e) (s : SOk K F0 H0 F H σ G)
    (k : ∀ σ' F' H', Step F H F' H' → SOk K F0 H0 F' H' σ' G → (∀ i, i ≠ j → σ'[i]? = σ[i]?) → r E σ' H') : tSeq (tFor wi (gName j) (tDrop te)) r E σ H := by
  refine hi F0 H0 F H σ s _ fun J F1 H1 t1 w => ?_
  refine ⟨fun i m σ' H' => m = ds.length - i ∧ i ≤ ds.length ∧ ∃ F', Step F1 H1 F' H' ∧ SOk K F0 H0 F' H' σ' G ∧ ∀ l, l ≠ j → σ'[l]? = σ[l]?, ⟨ds.length, rfl, Nat.zero_le _, F1, Step.refl t1.fh, s.step t1, fun _ _ => rfl⟩, ?_⟩
  rintro i m σ' H' ⟨rfl, hi, F', st, s', hl⟩
  obtain ⟨w1, w2⟩ := w F' H' st.ff s'.fh
  by_cases hlt : i < ds.length
  · obtain ⟨go, yl⟩ := w1 i _ (List.getElem?_eq_getElem hlt)
    obtain ⟨e, he⟩ := hb ds[i] (List.getElem_mem hlt)
    refine .inr ⟨go, fun σ2 H2 => ∃ F2, Step F1 H1 F2 H2 ∧ SOk K F0 H0 F2 H2 σ2 G ∧ ∀ l, l ≠ j → σ2[l]? = σ[l]?, fun σ2 H2 ⟨F2, p1, p2, p3⟩ => ⟨ds.length - (i + 1), by omega, rfl, hlt, F2, p1, p2, p3⟩, fun x H2 y => ?_⟩
    obtain ⟨F2, t2, r2⟩ := yl x H2 y
    have s2 := (s'.step t2).set (i := j) r2
    refine he F0 H0 F2 H2 _ s2 _ fun v F3 H3 t3 _ => ⟨F3, (st.trans t2).trans t3, ?_, fun l hn => by rw [List.getElem?_set_ne (Ne.symm hn)]; exact hl l hn⟩
    exact (s2.step t3).weak (weak_set hu)
  · have e : i = ds.length := by omega
    subst e
    exact .inl ⟨w2 _ (Nat.le_refl _), k σ' F' H' (t1.trans st) s' hl⟩
/-- self.f = e, the object apart, any f -/
theorem fld_put {f : Str} {F0 H0 F H : Hp} {σ : L2.St} {E : Ends} {i : Nat} {x dx : Addr} {ws : List V} {g : V → List V} (c : Cls K C) (n : NoAttr K C f) (hl : ns.length < 1000) (s : SOk K F0 H0 F H σ G) (h : EvD K tv G d) (hs : σ[i]? = some (some (.ref x))) (h0 : H0 x = none) (hf : F x = none) (hx : H x = some (.ins C dx (ns.zip ws))) (hw : ws.length = ns.length)
    (hp : ∀ v, putF f v (ns.zip ws) = ns.zip (g v))
    (q : ∀ v F' H', Step F H F' H' → F' x = none → SOk K F0 H0 F' (upd H' x (.ins C dx (ns.zip (g v)))) σ G → Rep K F' d v → E.nx σ (upd H' x (.ins C dx (ns.zip (g v))))) : sFld K (tVar i) tv f E σ H := by
  refine h F0 H0 F H σ s _ fun v F1 H1 t1 r1 => ⟨.ref x, hs, x, C, dx, ns.zip ws, rfl, (t1.kp hx hf).1, c, n, ?_, ?_⟩
  · rw [List.length_zip, hw]; omega
  · rw [hp v]
    exact q v F1 H1 t1 (t1.kp hx hf).2 ((s.step t1).mutX h0 (t1.kp hx hf).2 (t1.kp hx hf).1) r1
/-- a name for a new object that stands apart -/
theorem raw_mk {P : List D → D → Prop} {X : XK} {i : Nat} {E : Ends} (h : EvA K tr G ds) (p : P ds (.ins C ns fs)) {F0 H0 F H : Hp} {σ : L2.St} (s : SOk K F0 H0 F H σ G)
    (q : ∀ x dx ws F' H', Step F H F' H' → H x = none → F' x = none → H' x = some (.ins C dx (ns.zip ws)) → ws.length = ns.length → Reps K F' fs ws → r E (σ.set i (some (.ref x))) H') : tSeq (tAsg (tMake C (spI K C P) [] X tr) (gName i)) r E σ H := mk_apart h p s (Q := fun v H' => r E (σ.set i (some v)) H') q
theorem st_nx {F0 H0 F H : Hp} {σ : L2.St} {E : Ends} {G' : Ctx} (s : SOk K F0 H0 F H σ G) (h : StD K t G (.nx G')) (k : ∀ σ' F' H', SOk K F0 H0 F' H' σ' G' → Same F F' → r E σ' H') : tSeq t r E σ H := h F0 H0 F H σ _ s fun σ' F' H' s' f => k σ' F' H' s' f
theorem ev_abs {i : Int} (ha : EvD K ta G (.int i)) : EvD K (tCB (fun xs H Q => ∃ i, xs = [V.int i] ∧ Q (.int (if i < 0 then -i else i)) H) (tCons ta tNil)) G (.int (if i < 0 then -i else i)) := ev_cb (ea_cons ha ea_nil) fun F H vs s hx Q q => by
  obtain ⟨v, r, rfl, h1, h3⟩ := hx
  cases h1
  cases h3
  exact ⟨i, rfl, q _ F H (Step.refl s) rfl⟩
end
theorem dvd_len {p : Int} (hp : Pm p) {a g : List Int} (na : Nrm p a) (ng : Nrm p g) (ha : a ≠ []) (h : Dvd p g a) : g.length ≤ a.length := by
  obtain ⟨x, nx, hx⟩ := h
  have hg : g ≠ [] := fun z => by
    rw [z, ps_nil] at hx
    exact ps_ne hp.pos na ha (by rw [hx]; grind)
  have xe : x ≠ [] := fun z => by
    rw [z, ps_nil] at hx
    exact ps_ne hp.pos na ha (by rw [hx]; grind)
  have e : a = pmul p x g := ps_inj hp.pos na (trim_nrm hp.pos _) (by rw [hx, ps_pmul])
  have l := pmul_len3 hp nx ng xe hg
  rw [← e] at l
  have := List.length_pos_iff.mpr xe
  omega
theorem pgcd_len {p : Int} (hp : Pm p) {a b : List Int} (na : Nrm p a) (nb : Nrm p b) : (pgcd p a b).length ≤ max a.length b.length := by
  obtain ⟨ng, _, d1, d2⟩ := gcd_two hp na nb
  by_cases ha : a = []
  · by_cases hb : b = []
    · subst ha hb; simp [pgcd_nil]
    · have := dvd_len hp nb ng hb d2; omega
  · have := dvd_len hp na ng ha d1; omega
theorem foldl_snoc {α β : Type} (g : α → β) : ∀ (l : List α) (a : List β), l.foldl (fun acc x => acc ++ [g x]) a = a ++ l.map g
  | [], a => by simp
  | x :: l, a => by rw [List.foldl_cons, foldl_snoc g l, List.map_cons, List.append_assoc]; rfl
theorem parts_last {K : Fg} {c : Cur} {T : Tri} (hp : 0 < c.1) : atI ((fParts c T).map (fnD K c)) (-1) = some (fnD K c (fLast c T)) := by
  apply atI_last1
  unfold fParts rangeI
  obtain ⟨n, hn⟩ : ∃ n, c.1.toNat = n + 1 := ⟨c.1.toNat - 1, by omega⟩
  have e : (n : Int) = c.1 - 1 := by omega
  rw [hn, List.range_succ]
  simp [fLast, e]
theorem enumI_cf {l : List Int} {i x : Int} (h : (i, x) ∈ enumI l) : x = cf l i.toNat := by
  unfold enumI at h
  obtain ⟨k, hk⟩ := List.getElem?_of_mem h
  rw [List.getElem?_mapIdx] at hk
  cases e : l[k]? with
  | none => rw [e] at hk; cases hk
  | some y =>
    rw [e] at hk
    have hk' : ((k : Int), y) = (i, x) := Option.some.inj hk
    cases hk'
    have := (List.getElem?_eq_some_iff.mp e).1
    rw [Int.toNat_natCast]
    have := cf_get this
    rw [e] at this
    exact Option.some.inj this
theorem pick_zero {p : Int} (hp : 0 < p) {l : List Int} (nl : Nrm p l) (h : pEvery p l (p - 1) = []) : ∀ k : Nat, (k : Int) % p = p - 1 → cf l k = 0 := by
  intro k hk
  have h1 : cf (pEvery p l (p - 1)) (k / p.toNat) = 0 := by rw [h]; rfl
  unfold pEvery at h1
  obtain ⟨q, hq⟩ : ∃ q : Nat, p = (q : Int) := ⟨p.toNat, by omega⟩
  subst hq
  rw [cf_trim, show (q : Int) - 1 = ((q - 1 : Nat) : Int) by omega, pick_cf (by omega), Int.toNat_natCast] at h1
  have e : q - 1 + q * (k / q) = k := by
    have h2 : k % q = q - 1 := by omega
    have := Nat.mod_add_div k q
    omega
  rw [e] at h1
  have := nl.bd hp k
  rwa [Int.emod_eq_of_lt this.1 this.2] at h1
theorem last_zero {c : Cur} {T : Tri} (cv : CvOk c) (hT : LsOk c.1 T) (h : nought (fLast c T)) : ∀ k : Nat, (k : Int) % c.1 = c.1 - 1 → cf (fLow c T) k = 0 ∧ cf (fHigh c T) k = 0 := by
  have hp := cv.pos
  have hpg := cv.pm.ge
  obtain ⟨_, k, hk, k1, k2, _⟩ := least_ok cv.pm (t := pmul c.1 (pEvery c.1 (fLow c T) (c.1 - 1)) c.2) (s := pEvery c.1 (fHigh c T) (c.1 - 1)) (b := pmul c.1 T.2.2 c.2) (trim_nrm hp _) (trim_nrm hp _) (trim_nrm hp _) (pmul_ne cv.pm hT.n3 cv.nr hT.ne cv.ne)
  obtain ⟨h1, h2⟩ := h
  unfold fLast fPart at h1 h2
  rw [h1, ps_nil] at k1
  rw [h2, ps_nil] at k2
  have e1 : pEvery c.1 (fLow c T) (c.1 - 1) = [] := Classical.byContradiction fun z => ps_ne hp (trim_nrm hp _) (pmul_ne cv.pm (trim_nrm hp _) cv.nr z cv.ne) (k1.trans (by grind))
  have e2 : pEvery c.1 (fHigh c T) (c.1 - 1) = [] := (ps_eq0 hp (trim_nrm hp _)).mp (k2.trans (by grind))
  exact fun j hj => ⟨pick_zero hp (trim_nrm hp _) e1 j hj, pick_zero hp (trim_nrm hp _) e2 j hj⟩
theorem pSrc_len {p : Int} {l : List Int} : (pSrc p l).length ≤ l.length + 1 := Nat.le_trans trim_len (by
  unfold srF
  rw [foldl_len _ (fun _ _ => by split <;> simp), List.length_replicate]
  omega)
theorem pStretch_len0 {p : Int} {l : List Int} (h : l ≠ []) : (pStretch p l).length = (p * ((l.length : Int) - 1) + 1).toNat := by
  unfold pStretch stF
  rw [if_neg h, foldl_len _ (fun _ _ => by simp), List.length_replicate]
theorem pStretch_len {p : Int} {l : List Int} (hp : 0 < p) (h : p ≤ 13) : (pStretch p l).length ≤ 13 * l.length + 1 := by
  by_cases z : l = []
  · subst z; simp [pStretch]
  · rw [pStretch_len0 z]
    have := List.length_pos_iff.mpr z
    have : p * ((l.length : Int) - 1) ≤ 13 * l.length := Int.mul_le_mul (by omega) (by omega) (by omega) (by omega)
    omega
theorem StD.nxc {K : Fg} {t : TS} {G G1 G2 : Ctx} (h : StD K t G (.nx G1)) (e : G1 = G2) : StD K t G (.nx G2) := e ▸ h
theorem cf_spread {q : Nat} (hq : 0 < q) (acc : List Int) : ∀ l : List Int, (∀ i, i < l.length → q * i < acc.length) → ∀ k, cf ((enumI l).foldl (fun s r => s.set ((q : Int) * r.1).toNat r.2) acc) k = if k % q = 0 ∧ k / q < l.length then cf l (k / q) else cf acc k := by
  refine snoc_ind ?_ fun l x ih => ?_
  · intro _ k; simp [enumI]
  · intro h k
    have ih' := ih (fun i hi => h i (by rw [List.length_append]; omega))
    have hx := h l.length (by rw [List.length_append]; show l.length < l.length + 1; omega)
    rw [enumI_snoc, List.foldl_append]
    show cf ((List.foldl _ acc (enumI l)).set ((q : Int) * (l.length : Int)).toNat x) k = _
    have e : ((q : Int) * (l.length : Int)).toNat = q * l.length := by
      rw [show ((q : Int) * (l.length : Int)) = ((q * l.length : Nat) : Int) by simp, Int.toNat_natCast]
    have hlen : (List.foldl (fun s r => s.set ((q : Int) * r.1).toNat r.2) acc (enumI l)).length = acc.length := foldl_len _ (fun _ _ => by simp) _ _
    rw [e, cf_set (by rw [hlen]; exact hx), ih', cf_snoc]
    have hdm := Nat.mod_add_div k q
    by_cases hk : k = q * l.length
    · subst hk
      rw [if_pos rfl, if_pos]
      · rw [if_pos (by rw [Nat.mul_div_cancel_left _ hq])]
      · rw [Nat.mul_mod_right, Nat.mul_div_cancel_left _ hq, List.length_append]
        exact ⟨rfl, by show l.length < l.length + 1; omega⟩
    · rw [if_neg hk]
      have hne : k % q = 0 → k / q ≠ l.length := fun z1 z2 => hk (by rw [z1, z2] at hdm; omega)
      by_cases z : k % q = 0
      · by_cases z2 : k / q < l.length
        · rw [if_pos ⟨z, z2⟩, if_pos ⟨z, by rw [List.length_append]; omega⟩, if_neg (hne z)]
        · rw [if_neg (fun y => z2 y.2), if_neg]
          rintro ⟨_, y⟩
          rw [List.length_append] at y
          have : k / q < l.length + 1 := y
          have := hne z
          omega
      · rw [if_neg (fun y => z y.1), if_neg (fun y => z y.1)]
theorem cf_stretch {q : Nat} (hq : 0 < q) (l : List Int) (k : Nat) : cf (pStretch (q : Int) l) k = if k % q = 0 then cf l (k / q) else 0 := by
  unfold pStretch
  by_cases hl : l = []
  · subst hl
    rw [if_pos rfl]
    split <;> rfl
  · rw [if_neg hl]
    unfold stF
    have := List.length_pos_iff.mpr hl
    have e : ((q : Int) * ((l.length : Int) - 1) + 1).toNat = q * (l.length - 1) + 1 := by
      rw [show ((q : Int) * ((l.length : Int) - 1) + 1) = ((q * (l.length - 1) + 1 : Nat) : Int) by
        rw [show ((l.length : Int) - 1) = ((l.length - 1 : Nat) : Int) by omega]; simp, Int.toNat_natCast]
    rw [cf_spread hq, cf_rep]
    · by_cases z : k % q = 0
      · rw [if_pos z]
        by_cases z2 : k / q < l.length
        · rw [if_pos ⟨z, z2⟩]
        · rw [if_neg (fun y => z2 y.2), cf_out (by omega)]
      · rw [if_neg z, if_neg (fun y => z y.1)]
    · intro i hi
      rw [List.length_replicate, e]
      have : q * i ≤ q * (l.length - 1) := Nat.mul_le_mul_left _ (by omega)
      omega
theorem pStretch_ne {p : Int} {l : List Int} (hp : 0 < p) (h : l ≠ []) : pStretch p l ≠ [] := fun z => by
  have := pStretch_len0 (p := p) h
  rw [z] at this
  have hl := List.length_pos_iff.mpr h
  have : 0 ≤ p * ((l.length : Int) - 1) := Int.mul_nonneg (by omega) (by omega)
  simp at *
  omega
theorem mem_cf {l : List Int} {x : Int} (h : x ∈ l) : ∃ i, i < l.length ∧ x = cf l i := by
  obtain ⟨k, hk⟩ := List.getElem?_of_mem h
  have hl := (List.getElem?_eq_some_iff.mp hk).1
  rw [cf_get hl] at hk
  exact ⟨k, hl, (Option.some.inj hk).symm⟩
theorem pStretch_nrm {p : Int} {l : List Int} (hp : 0 < p) (h : Nrm p l) : Nrm p (pStretch p l) := by
  obtain ⟨q, rfl⟩ : ∃ q : Nat, p = (q : Int) := ⟨p.toNat, by omega⟩
  have hq : 0 < q := by omega
  refine ⟨fun x hx => ?_, fun hne => ?_⟩
  · obtain ⟨i, _, rfl⟩ := mem_cf hx
    rw [cf_stretch hq]
    split
    · exact h.bd hp _
    · omega
  · have hl : l ≠ [] := fun z => hne (by rw [z]; rfl)
    have := List.length_pos_iff.mpr hl
    rw [lastI_cf hne, pStretch_len0 hl, cf_stretch hq]
    have e : ((q : Int) * ((l.length : Int) - 1) + 1).toNat - 1 = q * (l.length - 1) := by
      rw [show ((q : Int) * ((l.length : Int) - 1) + 1) = ((q * (l.length - 1) + 1 : Nat) : Int) by
        rw [show ((l.length : Int) - 1) = ((l.length - 1 : Nat) : Int) by omega]; simp, Int.toNat_natCast]
      rfl
    rw [e, Nat.mul_mod_right, if_pos rfl, Nat.mul_div_cancel_left _ hq, ← lastI_cf hl]
    exact h.2 hl
end Cw
set_option maxHeartbeats 4000000
namespace Cw
open PySem PySem.Spec PyProof.Rows L2
/-! ### the law's own reckoning: plain part -/
theorem drop_fold {α : Type} : ∀ (xs : List α) (l : List Int), l.length ≤ xs.length → xs.foldl (fun l _ => if !decide (l = []) && decide (lastI l = 0) then l.dropLast else l) l = dropZ l
  | [], l, h => by
    have : l = [] := List.length_eq_zero_iff.mp (by simpa using h)
    subst this; rfl
  | x :: xs, l, h => by
    rw [List.foldl_cons]
    by_cases e : l = []
    · subst e
      rw [if_neg (by simp)]
      exact drop_fold xs [] (by simp)
    · obtain ⟨l', y, rfl⟩ := snoc_of e
      by_cases hy : y = 0
      · rw [if_pos (by simp [lastI_snoc, hy]), dropZ_snoc, if_pos hy, List.dropLast_concat]
        refine drop_fold xs l' ?_
        simp at h; omega
      · rw [if_neg (by simp [lastI_snoc, hy]), dropZ_snoc, if_neg hy]
        have stay : ∀ ys : List α, ys.foldl (fun l _ => if !decide (l = []) && decide (lastI l = 0) then l.dropLast else l) (l' ++ [y]) = l' ++ [y] := by
          intro ys
          induction ys with
          | nil => rfl
          | cons z ys ih => rw [List.foldl_cons, if_neg (by simp [lastI_snoc, hy])]; exact ih
        exact stay xs
/-- the product, noughts passed over -/
def lmF (a b : List Int) : List Int := (enumI a).foldl (fun l q => if q.2 = 0 then l else addAt q.1 q.2 b l) (List.replicate (a.length + b.length - 1) 0)
theorem lmF_len {a b : List Int} : (lmF a b).length = a.length + b.length - 1 := by
  unfold lmF
  rw [foldl_len _ (fun l q => by split <;> simp [addAt_len])]; simp
theorem cf_lmG (b : List Int) (n : Nat) : ∀ a : List Int, a.length + b.length ≤ n + 1 → ∀ k, cf ((enumI a).foldl (fun l q => if q.2 = 0 then l else addAt q.1 q.2 b l) (List.replicate n 0)) k = sm a.length fun i => if i ≤ k then cf a i * cf b (k - i) else 0 := by
  intro a
  induction a using snoc_ind with
  | h0 => intro _ k; exact cf_rep
  | hs a x ih =>
    intro hn k
    rw [List.length_append, List.length_singleton] at hn
    rw [enumI_snoc, List.foldl_append]
    simp only [List.foldl_cons, List.foldl_nil]
    have hl : ((enumI a).foldl (fun l q => if q.2 = 0 then l else addAt q.1 q.2 b l) (List.replicate n 0)).length = n := by
      rw [foldl_len _ (fun l q => by split <;> simp [addAt_len])]; simp
    have e : cf (if x = 0 then (enumI a).foldl (fun l q => if q.2 = 0 then l else addAt q.1 q.2 b l) (List.replicate n 0) else addAt (a.length : Int) x b ((enumI a).foldl (fun l q => if q.2 = 0 then l else addAt q.1 q.2 b l) (List.replicate n 0))) k = cf ((enumI a).foldl (fun l q => if q.2 = 0 then l else addAt q.1 q.2 b l) (List.replicate n 0)) k + if a.length ≤ k then x * cf b (k - a.length) else 0 := by
      by_cases hx : x = 0
      · rw [if_pos hx, hx]
        split <;> omega
      · rw [if_neg hx, cf_addAt _ _ (by rw [hl]; omega)]
    rw [e, ih (by omega), List.length_append, List.length_singleton, sm_succ]
    congr 1
    · apply sm_congr
      intro i hi
      simp only [cf_snoc, if_neg (show ¬ i = a.length by omega)]
    · rw [cf_snoc, if_pos rfl]
theorem cf_lmF {a b : List Int} {k : Nat} : cf (lmF a b) k = conv a b k := by
  unfold lmF conv
  rw [cf_lmG b _ a (by omega)]
  by_cases h : a.length ≤ k + 1
  · rw [sm_ext (n := a.length) (m := k + 1) (f := fun i => cf a i * cf b (k - i)) (fun i hi => by rw [cf_out hi, Int.zero_mul]) h]
    apply sm_congr
    intro i hi
    rw [if_pos (by omega)]
  · rw [sm_ext (n := k + 1) (m := a.length) (f := fun i => if i ≤ k then cf a i * cf b (k - i) else 0) (fun i hi => if_neg (by omega)) (by omega)]
    apply sm_congr
    intro i hi
    rw [if_pos (by omega)]
theorem lm_eq {p : Int} (hp : 0 < p) {a b : List Int} : trim p (lmF a b) = pmul p a b := trim_ext hp fun i => by rw [cf_lmF, cf_mulF]
theorem pscl_neg {p : Int} {a : List Int} : pscl p a (-1) = pneg p a := by
  unfold pscl pneg
  congr 1
  apply List.map_congr_left
  intro x _
  omega
/-- division: what is left and how often is told by what they are -/
theorem rem_uniq {p : Int} (hp : Pm p) {a b r x : List Int} (hb : b ≠ []) (nb : Nrm p b) (nr : Nrm p r) (h : ps p a = ps p x * ps p b + ps p r) (hl : r.length < b.length) : prem p a b = r ∧ ps p (pquo p a b) = ps p x := by
  obtain ⟨h1, h2⟩ := div_eq hp (a := a) hb nb
  have hbn := ps_ne hp.pos nb hb
  have hd : psub p x (pquo p a b) = [] := Classical.byContradiction fun z => by
    have e : pmul p (psub p x (pquo p a b)) b = psub p (prem p a b) r := ps_inj hp.pos (trim_nrm hp.pos _) (trim_nrm hp.pos _) (by
      rw [ps_pmul, ps_psub, ps_psub]
      rw [h] at h1
      grind)
    have l1 := pmul_len3 hp (trim_nrm hp.pos _) nb z hb
    rw [show trim p (mk (max x.length (pneg p (pquo p a b)).length) fun i => cf x i + cf (pneg p (pquo p a b)) i) = psub p x (pquo p a b) from rfl, e] at l1
    have l2 := psub_len (p := p) (a := prem p a b) (b := r)
    have := List.length_pos_iff.mpr z
    omega
  have e2 : ps p x = ps p (pquo p a b) := by
    have := ps_psub (p := p) (a := x) (b := pquo p a b)
    rw [hd, ps_nil] at this
    grind
  refine ⟨ps_inj hp.pos (prem_nrm hp.pos) nr ?_, e2.symm⟩
  rw [h, e2] at h1
  grind
/-! ### what is left -/
def lrBy (back : Int) (b l : List Int) : List Int := List.replicate (l.length - b.length) 0 ++ [lastI l * back]
def lrStep (p back : Int) (b l : List Int) : List Int := if b.length ≤ l.length then padd p l (pscl p (pmul p (lrBy back b l) b) (-1)) else l
def lwBy (p back : Int) (b l : List Int) : List Int := List.replicate (l.length - b.length) 0 ++ [lastI l * back % p]
def lwStep (p back : Int) (b : List Int) (s : List Int × List Int) : List Int × List Int := if b.length ≤ s.1.length then (padd p s.1 (pscl p (pmul p (lwBy p back b s.1) b) (-1)), padd p s.2 (lwBy p back b s.1)) else s
theorem ps_shift {p : Int} {n : Nat} {x : Int} : ps p (List.replicate n 0 ++ [x]) = PS.C (ZM.mk p x) * PS.X n := PS.ext fun k => by
  rw [PS.C_mul, ps_at, cf_app, List.length_replicate, cf_rep]
  have hX : (PS.X n : PZ p) k = if n = k then 1 else 0 := by
    have := PS.X_mul n (1 : PZ p) k
    rw [show (PS.X n : PZ p) * 1 = PS.X n by grind] at this
    rw [this]
    by_cases h : n ≤ k
    · rw [if_pos h, PS.one_at]
      by_cases h2 : n = k
      · rw [if_pos h2, if_pos (by omega)]
      · rw [if_neg h2, if_neg (by omega)]
    · rw [if_neg h, if_neg (by omega)]
  rw [hX]
  by_cases h : k < n
  · rw [if_pos h, if_neg (by omega)]
    show ZM.mk p 0 = _
    rw [ZM.mk_zero]; grind
  · rw [if_neg h]
    by_cases h2 : n = k
    · subst h2
      rw [if_pos rfl, Nat.sub_self]
      show ZM.mk p x = _
      grind
    · rw [if_neg h2, cf_out (by simp; omega)]
      rw [ZM.mk_zero]; grind
/-- one step lowers -/
theorem lr_low {p : Int} (hp : Pm p) {b l : List Int} (hb : b ≠ []) (nb : Nrm p b) (nl : Nrm p l) (h : b.length ≤ l.length) {y : List Int} (hy : ps p y = PS.C (ZM.mk p (lastI l * pinv p (lastI b))) * PS.X (l.length - b.length)) : (padd p l (pscl p (pmul p y b) (-1))).length < l.length ∧ ps p (padd p l (pscl p (pmul p y b) (-1))) = ps p l - ps p y * ps p b := by
  have e : ps p (padd p l (pscl p (pmul p y b) (-1))) = ps p l - ps p y * ps p b := by
    rw [pscl_neg, ps_padd, ps_pneg, ps_pmul]; grind
  refine ⟨?_, e⟩
  have hbl := List.length_pos_iff.mpr hb
  have hl : l ≠ [] := fun z => by
    subst z
    have h' : b.length ≤ 0 := h
    omega
  have key : PS.Lt (l.length - 1) (ps p (padd p l (pscl p (pmul p y b) (-1)))) := fun k hk => by
    rw [e, hy, PS.sub_at, show PS.C (ZM.mk p (lastI l * pinv p (lastI b))) * PS.X (l.length - b.length) * ps p b = PS.C (ZM.mk p (lastI l * pinv p (lastI b))) * (PS.X (l.length - b.length) * ps p b) by grind, PS.C_mul, PS.X_mul]
    by_cases hk2 : k = l.length - 1
    · subst hk2
      rw [if_pos (by omega), show l.length - 1 - (l.length - b.length) = b.length - 1 by omega, ps_at, ps_at, ← lastI_cf hl, ← lastI_cf hb, ZM.mk_mul, ZM.mk_sub]
      obtain ⟨k1, k2, k3⟩ := pinv_mem hp (nb.lmod hb)
      apply ZM.eq_zero.mpr
      rw [Int.mul_assoc, Int.sub_emod, Int.mul_emod, k3]
      simp
    · rw [ps_at, cf_out (by omega)]
      rw [if_pos (by omega), ps_at, cf_out (by omega), ZM.mk_zero]; grind
  have := len_lt hp.pos (trim_nrm hp.pos _) key
  have := List.length_pos_iff.mpr hl
  show (trim p _).length < _
  omega
/-- the loops -/
theorem lr_fold {α : Type} {p : Int} (hp : Pm p) {b : List Int} (hb : b ≠ []) (nb : Nrm p b) : ∀ (xs : List α) (l : List Int), Nrm p l → l.length ≤ xs.length → ∃ x, ps p l = ps p x * ps p b + ps p (xs.foldl (fun l _ => lrStep p (pinv p (lastI b)) b l) l) ∧ Nrm p (xs.foldl (fun l _ => lrStep p (pinv p (lastI b)) b l) l) ∧ (xs.foldl (fun l _ => lrStep p (pinv p (lastI b)) b l) l).length < b.length
  | [], l, nl, h => ⟨[], by rw [ps_nil]; simp only [List.foldl_nil]; grind, nl, by
      have := List.length_pos_iff.mpr hb
      simp at h
      simp [h]; omega⟩
  | x :: xs, l, nl, h => by
    rw [List.foldl_cons]
    by_cases hl : b.length ≤ l.length
    · have e : lrStep p (pinv p (lastI b)) b l = padd p l (pscl p (pmul p (lrBy (pinv p (lastI b)) b l) b) (-1)) := if_pos hl
      obtain ⟨h1, h2⟩ := lr_low hp hb nb nl hl (y := lrBy (pinv p (lastI b)) b l) ps_shift
      rw [← e] at h1 h2
      obtain ⟨x, i1, i2, i3⟩ := lr_fold hp hb nb xs (lrStep p (pinv p (lastI b)) b l) (by rw [e]; exact trim_nrm hp.pos _) (by simp at h; omega)
      refine ⟨padd p x (lrBy (pinv p (lastI b)) b l), ?_, i2, i3⟩
      rw [ps_padd]
      rw [i1] at h2
      grind
    · have e : lrStep p (pinv p (lastI b)) b l = l := if_neg hl
      have stay : ∀ ys : List α, ys.foldl (fun l _ => lrStep p (pinv p (lastI b)) b l) l = l := by
        intro ys
        induction ys with
        | nil => rfl
        | cons z ys ih => rw [List.foldl_cons, e]; exact ih
      rw [e, stay]
      exact ⟨[], by rw [ps_nil]; grind, nl, by omega⟩
theorem lw_fold {α : Type} {p : Int} (hp : Pm p) {b : List Int} (hb : b ≠ []) (nb : Nrm p b) : ∀ (xs : List α) (s : List Int × List Int), Nrm p s.1 → Nrm p s.2 → s.1.length ≤ xs.length →
    ps p (xs.foldl (fun s _ => lwStep p (pinv p (lastI b)) b s) s).2 * ps p b + ps p (xs.foldl (fun s _ => lwStep p (pinv p (lastI b)) b s) s).1 = ps p s.2 * ps p b + ps p s.1 ∧ Nrm p (xs.foldl (fun s _ => lwStep p (pinv p (lastI b)) b s) s).1 ∧ Nrm p (xs.foldl (fun s _ => lwStep p (pinv p (lastI b)) b s) s).2 ∧ (xs.foldl (fun s _ => lwStep p (pinv p (lastI b)) b s) s).1.length < b.length
  | [], s, n1, n2, h => ⟨rfl, n1, n2, by
      have := List.length_pos_iff.mpr hb
      simp at h
      simp [h]; omega⟩
  | x :: xs, s, n1, n2, h => by
    rw [List.foldl_cons]
    by_cases hl : b.length ≤ s.1.length
    · have e : lwStep p (pinv p (lastI b)) b s = (padd p s.1 (pscl p (pmul p (lwBy p (pinv p (lastI b)) b s.1) b) (-1)), padd p s.2 (lwBy p (pinv p (lastI b)) b s.1)) := if_pos hl
      obtain ⟨h1, h2⟩ := lr_low hp hb nb n1 hl (y := lwBy p (pinv p (lastI b)) b s.1) (by unfold lwBy; rw [ps_shift, ZM.mod_mk])
      have e1 : (lwStep p (pinv p (lastI b)) b s).1 = padd p s.1 (pscl p (pmul p (lwBy p (pinv p (lastI b)) b s.1) b) (-1)) := by rw [e]
      have e2 : (lwStep p (pinv p (lastI b)) b s).2 = padd p s.2 (lwBy p (pinv p (lastI b)) b s.1) := by rw [e]
      rw [← e1] at h1 h2
      obtain ⟨i1, i2, i3, i4⟩ := lw_fold hp hb nb xs (lwStep p (pinv p (lastI b)) b s) (by rw [e1]; exact trim_nrm hp.pos _) (by rw [e2]; exact trim_nrm hp.pos _) (by simp at h; omega)
      refine ⟨?_, i2, i3, i4⟩
      rw [i1, h2, e2, ps_padd]
      grind
    · have e : lwStep p (pinv p (lastI b)) b s = s := if_neg hl
      have stay : ∀ ys : List α, ys.foldl (fun s _ => lwStep p (pinv p (lastI b)) b s) s = s := by
        intro ys
        induction ys with
        | nil => rfl
        | cons z ys ih => rw [List.foldl_cons, e]; exact ih
      rw [e, stay]
      exact ⟨rfl, n1, n2, by omega⟩
theorem lr_eq {p : Int} (hp : Pm p) {a b : List Int} (hb : b ≠ []) (nb : Nrm p b) (na : Nrm p a) : (rangeI 0 a.length).foldl (fun l _ => lrStep p (pinv p (lastI b)) b l) a = prem p a b := by
  obtain ⟨x, h1, h2, h3⟩ := lr_fold hp hb nb (rangeI 0 a.length) a na (by rw [rangeI_len]; omega)
  exact (rem_uniq hp hb nb h2 h1 h3).1.symm
theorem lw_eq {p : Int} (hp : Pm p) {a b : List Int} (hb : b ≠ []) (nb : Nrm p b) (na : Nrm p a) : ((rangeI 0 a.length).foldl (fun s _ => lwStep p (pinv p (lastI b)) b s) (a, [])).2 = pquo p a b := by
  obtain ⟨h1, h2, h3, h4⟩ := lw_fold hp hb nb (rangeI 0 a.length) (a, []) na nrm_nil (by rw [rangeI_len]; exact Nat.le_refl _)
  refine ps_inj hp.pos h3 (pquo_nrm hp.pos) (rem_uniq hp hb nb h2 (x := ((rangeI 0 a.length).foldl (fun s _ => lwStep p (pinv p (lastI b)) b s) (a, [])).2) ?_ h4).2.symm
  rw [ps_nil] at h1
  rw [h1]; grind
/-! ### the common factor, any of them -/
structure GcdU (p : Int) (a b g : List Int) : Prop where
  nr : Nrm p g
  ne : a ≠ [] ∨ b ≠ [] → g ≠ []
  da : Dvd p g a
  db : Dvd p g b
  bz : ∃ u v, ps p g = ps p u * ps p a + ps p v * ps p b
def lcStep (p : Int) (s : List Int × List Int) : List Int × List Int := if s.2 = [] then s else (s.2, prem p s.1 s.2)
def lcF (p : Int) (a b : List Int) : List Int := ((rangeI 0 (a.length + b.length + 1)).foldl (fun s _ => lcStep p s) (a, b)).1
structure LcI (p : Int) (a b : List Int) (s : List Int × List Int) : Prop where
  n1 : Nrm p s.1
  n2 : Nrm p s.2
  b1 : ∃ u v, ps p s.1 = ps p u * ps p a + ps p v * ps p b
  b2 : ∃ u v, ps p s.2 = ps p u * ps p a + ps p v * ps p b
  d1 : ∃ x y, ps p a = ps p x * ps p s.1 + ps p y * ps p s.2
  d2 : ∃ x y, ps p b = ps p x * ps p s.1 + ps p y * ps p s.2
theorem lc_step {p : Int} (hp : Pm p) {a b : List Int} {s : List Int × List Int} (i : LcI p a b s) : LcI p a b (lcStep p s) ∧ (s.2 ≠ [] → (lcStep p s).2.length < s.2.length) := by
  unfold lcStep
  by_cases h : s.2 = []
  · rw [if_pos h]; exact ⟨i, fun z => absurd h z⟩
  · rw [if_neg h]
    obtain ⟨h1, h2⟩ := div_eq hp (a := s.1) h i.n2
    obtain ⟨u1, v1, e1⟩ := i.b1
    obtain ⟨u2, v2, e2⟩ := i.b2
    obtain ⟨x1, y1, f1⟩ := i.d1
    obtain ⟨x2, y2, f2⟩ := i.d2
    refine ⟨⟨i.n2, prem_nrm hp.pos, ⟨u2, v2, e2⟩, ⟨psub p u1 (pmul p (pquo p s.1 s.2) u2), psub p v1 (pmul p (pquo p s.1 s.2) v2), ?_⟩, ⟨padd p (pmul p x1 (pquo p s.1 s.2)) y1, x1, ?_⟩, ⟨padd p (pmul p x2 (pquo p s.1 s.2)) y2, x2, ?_⟩⟩, fun _ => h2⟩
    · simp only [ps_psub, ps_pmul]
      grind
    · simp only [ps_padd, ps_pmul]
      grind
    · simp only [ps_padd, ps_pmul]
      grind
theorem lc_fold {α : Type} {p : Int} (hp : Pm p) {a b : List Int} : ∀ (xs : List α) (s : List Int × List Int), LcI p a b s → s.2.length < xs.length + 1 → LcI p a b (xs.foldl (fun s _ => lcStep p s) s) ∧ (xs.foldl (fun s _ => lcStep p s) s).2 = []
  | [], s, i, h => ⟨i, List.length_eq_zero_iff.mp (by simpa using h)⟩
  | x :: xs, s, i, h => by
    rw [List.foldl_cons]
    obtain ⟨h1, h2⟩ := lc_step hp i
    refine lc_fold hp xs (lcStep p s) h1 ?_
    by_cases z : s.2 = []
    · have : lcStep p s = s := if_pos z
      rw [this, z]; simp
    · have := h2 z
      simp at h
      omega
theorem lc_ok {p : Int} (hp : Pm p) {a b : List Int} (na : Nrm p a) (nb : Nrm p b) : GcdU p a b (lcF p a b) := by
  have st : LcI p a b (a, b) := ⟨na, nb, ⟨[1], [], by rw [ps_one, ps_nil]; grind⟩, ⟨[], [1], by rw [ps_one, ps_nil]; grind⟩, ⟨[1], [], by rw [ps_one, ps_nil]; grind⟩, ⟨[], [1], by rw [ps_one, ps_nil]; grind⟩⟩
  obtain ⟨i, h⟩ := lc_fold hp (rangeI 0 (a.length + b.length + 1)) (a, b) st (by rw [rangeI_len]; show b.length < _; omega)
  unfold lcF
  generalize (rangeI 0 (a.length + b.length + 1)).foldl (fun s _ => lcStep p s) (a, b) = s at i h ⊢
  obtain ⟨x1, y1, f1⟩ := i.d1
  obtain ⟨x2, y2, f2⟩ := i.d2
  rw [h, ps_nil] at f1 f2
  have dv : ∀ (z x : List Int), ps p z = ps p x * ps p s.1 → Dvd p s.1 z := fun z x e => by
    obtain ⟨y, ny, hy⟩ := nrmz hp.pos x
    exact ⟨y, ny, by rw [hy, e]⟩
  refine ⟨i.n1, fun q z => ?_, dv a x1 (by rw [f1]; grind), dv b x2 (by rw [f2]; grind), i.b1⟩
  rw [z, ps_nil] at f1 f2
  rcases q with w | w
  · exact w ((ps_eq0 hp.pos na).mp (by rw [f1]; grind))
  · exact w ((ps_eq0 hp.pos nb).mp (by rw [f2]; grind))
structure CoOk (p : Int) (t s b g : List Int) : Prop where
  nr : Nrm p g
  ne : g ≠ []
  d1 : Dvd p g t
  d2 : Dvd p g s
  d3 : Dvd p g b
  bz : ∃ u v w, ps p g = ps p u * ps p t + ps p v * ps p s + ps p w * ps p b
def leastG (p : Int) (t s b c : List Int) : Tri :=
  (pscl p (pquo p t c) (pinv p (lastI (pquo p b c))), pscl p (pquo p s c) (pinv p (lastI (pquo p b c))), pscl p (pquo p b c) (pinv p (lastI (pquo p b c))))
theorem leastG_ok {p : Int} (hp : Pm p) {t s b c : List Int} (nt : Nrm p t) (ns : Nrm p s) (nb : Nrm p b) (hb : b ≠ []) (g : CoOk p t s b c) :
    LsOk p (leastG p t s b c) ∧ ∃ k : List Int, ps p k ≠ 0 ∧ ps p t = ps p k * ps p (leastG p t s b c).1 ∧ ps p s = ps p k * ps p (leastG p t s b c).2.1 ∧ ps p b = ps p k * ps p (leastG p t s b c).2.2 := by
  unfold leastG
  have e1 := (div_exact hp nt g.nr g.ne g.d1).1
  have e2 := (div_exact hp ns g.nr g.ne g.d2).1
  have e3 := (div_exact hp nb g.nr g.ne g.d3).1
  have q3 := quo_ne hp nb g.nr g.ne g.d3 hb
  have nq : Nrm p (pquo p b c) := pquo_nrm hp.pos
  have hm := nq.lmod q3
  have hC := inv_C hp hm
  generalize hI : pinv p (lastI (pquo p b c)) = I at hC ⊢
  obtain ⟨k1, k2, k3⟩ := pinv_mem hp hm
  rw [hI] at k1 k2 k3
  obtain ⟨u, v, w, hz⟩ := g.bz
  have n1 : Nrm p [I] := ⟨fun x hx => by simp at hx; omega, fun _ => by show I ≠ 0; omega⟩
  have eb : pscl p (pquo p b c) I = pmul p (pquo p b c) [I] := ps_inj hp.pos (trim_nrm hp.pos _) (trim_nrm hp.pos _) (by rw [ps_pscl, ps_pmul, cst]; grind)
  have pl := pmul_last hp nq n1 q3 (by simp)
  have hcn := ps_ne hp.pos g.nr g.ne
  refine ⟨⟨trim_nrm hp.pos _, trim_nrm hp.pos _, trim_nrm hp.pos _, ?_, ?_, ?_⟩, pscl p c (lastI (pquo p b c)), ?_, ?_, ?_, ?_⟩
  · show pscl p (pquo p b c) I ≠ []
    rw [eb]; exact pl.1
  · show lastI (pscl p (pquo p b c) I) = 1
    rw [eb, pl.2]
    show lastI (pquo p b c) * I % p = 1
    rw [Int.mul_comm, k3]
  · refine ⟨pscl p u (lastI (pquo p b c)), pscl p v (lastI (pquo p b c)), pscl p w (lastI (pquo p b c)), ?_⟩
    simp only [ps_pscl]
    have : ps p u * ps p (pquo p t c) + ps p v * ps p (pquo p s c) + ps p w * ps p (pquo p b c) = 1 := PS.cancel hp hcn (by
      rw [show (1 : PZ p) * ps p c = ps p c by grind]
      have : (ps p u * ps p (pquo p t c) + ps p v * ps p (pquo p s c) + ps p w * ps p (pquo p b c)) * ps p c = ps p u * (ps p (pquo p t c) * ps p c) + ps p v * (ps p (pquo p s c) * ps p c) + ps p w * (ps p (pquo p b c) * ps p c) := by grind
      rw [this, ← e1, ← e2, ← e3, hz])
    grind
  · rw [ps_pscl]
    intro z
    apply hcn
    have : ps p c = PS.C (ZM.mk p I) * (PS.C (ZM.mk p (lastI (pquo p b c))) * ps p c) := by grind
    rw [this, z]; grind
  · simp only [ps_pscl]; rw [e1]; grind
  · simp only [ps_pscl]; rw [e2]; grind
  · simp only [ps_pscl]; rw [e3]; grind
theorem leastG_eq {p : Int} (hp : Pm p) {t s b c : List Int} (nt : Nrm p t) (ns : Nrm p s) (nb : Nrm p b) (hb : b ≠ []) (g : CoOk p t s b c) : leastG p t s b c = leastT p t s b := by
  obtain ⟨ok, k, hk, k1, k2, k3⟩ := leastG_ok hp nt ns nb hb g
  refine (least_eq hp nt ns nb hb ok ?_ ?_).symm
  · rw [k1, k3]; grind
  · rw [k2, k3]; grind
/-- the law's common factor of the three -/
def lcT (p : Int) (t s b : List Int) : List Int := lcF p (lcF p b t) s
theorem lcT_ok {p : Int} (hp : Pm p) {t s b : List Int} (nt : Nrm p t) (ns : Nrm p s) (nb : Nrm p b) (hb : b ≠ []) : CoOk p t s b (lcT p t s b) := by
  have g1 := lc_ok hp nb nt
  have g2 := lc_ok hp g1.nr ns
  obtain ⟨u, v, h1⟩ := g1.bz
  obtain ⟨x, y, h2⟩ := g2.bz
  exact ⟨g2.nr, g2.ne (.inl (g1.ne (.inl hb))), g2.da.trans hp.pos g1.db, g2.db, g2.da.trans hp.pos g1.da, ⟨pmul p x v, y, pmul p x u, by
    unfold lcT
    rw [h2, h1, ps_pmul, ps_pmul]; grind⟩⟩
theorem lc_len {p : Int} (hp : Pm p) {a b : List Int} (na : Nrm p a) (nb : Nrm p b) : (lcF p a b).length ≤ max a.length b.length := by
  have g := lc_ok hp na nb
  by_cases ha : a = []
  · by_cases hb : b = []
    · subst ha hb; simp [lcF, lcStep, rangeI]
    · have := dvd_len hp nb g.nr hb g.db; omega
  · have := dvd_len hp na g.nr ha g.da; omega
theorem cut_last (l : List Int) : cutD (l.map D.int) none (some (-1)) = (l.dropLast).map D.int := by
  unfold cutD
  rw [HT.sIx_none]
  have : HT.sIx (l.map D.int).length (l.map D.int).length (some (-1)) = (l.map D.int).length - 1 := by
    unfold HT.sIx
    simp
    omega
  rw [this, List.map_dropLast, List.drop_zero, Nat.sub_zero, ← List.dropLast_eq_take]
theorem lr_inv {α : Type} {p back : Int} {b : List Int} (hp : 0 < p) (hb : b ≠ []) : ∀ (xs : List α) (l : List Int), Nrm p l → Nrm p (xs.foldl (fun l _ => lrStep p back b l) l) ∧ (xs.foldl (fun l _ => lrStep p back b l) l).length ≤ l.length
  | [], l, n => ⟨n, Nat.le_refl _⟩
  | x :: xs, l, n => by
    rw [List.foldl_cons]
    have h : Nrm p (lrStep p back b l) ∧ (lrStep p back b l).length ≤ l.length := by
      unfold lrStep
      by_cases hl : b.length ≤ l.length
      · rw [if_pos hl]
        have hbl := List.length_pos_iff.mpr hb
        refine ⟨trim_nrm hp _, Nat.le_trans padd_len (Nat.max_le.mpr ⟨Nat.le_refl _, Nat.le_trans pscl_len ?_⟩)⟩
        have := pmul_len2 hp (a := lrBy back b l) (b := b)
        have e : (lrBy back b l).length = l.length - b.length + 1 := by unfold lrBy; simp
        omega
      · rw [if_neg hl]; exact ⟨n, Nat.le_refl _⟩
    obtain ⟨i1, i2⟩ := lr_inv hp hb xs (lrStep p back b l) h.1
    exact ⟨i1, Nat.le_trans i2 h.2⟩
theorem lrBy_sm {back : Int} {b l : List Int} (h0 : 0 ≤ lastI l * back) (h1 : lastI l * back ≤ 13 * 13) : Sm (lrBy back b l) := fun x hx => by
  unfold lrBy at hx
  rcases List.mem_append.mp hx with h | h
  · have := (List.mem_replicate.mp h).2
    omega
  · simp at h
    omega
theorem lwBy_sm {p back : Int} {b l : List Int} (hp : 0 < p) (hl : p ≤ 13) : Sm (lwBy p back b l) := fun x hx => by
  unfold lwBy at hx
  rcases List.mem_append.mp hx with h | h
  · have := (List.mem_replicate.mp h).2
    omega
  · simp at h
    have := Int.emod_nonneg (lastI l * back) (b := p) (by omega)
    have := Int.emod_lt_of_pos (lastI l * back) hp
    omega
theorem lw_inv {α : Type} {p back : Int} {b : List Int} (hp : 0 < p) (hb : b ≠ []) (N : Nat) : ∀ (xs : List α) (s : List Int × List Int), Nrm p s.1 → s.1.length ≤ N → s.2.length ≤ N → Nrm p (xs.foldl (fun s _ => lwStep p back b s) s).1 ∧ (xs.foldl (fun s _ => lwStep p back b s) s).1.length ≤ N ∧ (xs.foldl (fun s _ => lwStep p back b s) s).2.length ≤ N
  | [], s, n, h1, h2 => ⟨n, h1, h2⟩
  | x :: xs, s, n, h1, h2 => by
    rw [List.foldl_cons]
    have h : Nrm p (lwStep p back b s).1 ∧ (lwStep p back b s).1.length ≤ N ∧ (lwStep p back b s).2.length ≤ N := by
      unfold lwStep
      by_cases hl : b.length ≤ s.1.length
      · rw [if_pos hl]
        have hbl := List.length_pos_iff.mpr hb
        have e : (lwBy p back b s.1).length = s.1.length - b.length + 1 := by unfold lwBy; simp
        have := pmul_len2 hp (a := lwBy p back b s.1) (b := b)
        refine ⟨trim_nrm hp _, Nat.le_trans padd_len (Nat.max_le.mpr ⟨h1, Nat.le_trans pscl_len (by omega)⟩), Nat.le_trans padd_len (Nat.max_le.mpr ⟨h2, by omega⟩)⟩
      · rw [if_neg hl]; exact ⟨n, h1, h2⟩
    exact lw_inv hp hb N xs (lwStep p back b s) h.1 h.2.1 h.2.2
theorem lc_inv {α : Type} {p : Int} (hp : Pm p) (N : Nat) : ∀ (xs : List α) (s : List Int × List Int), Nrm p s.1 → Nrm p s.2 → s.1.length ≤ N → s.2.length ≤ N → Nrm p (xs.foldl (fun s _ => lcStep p s) s).1 ∧ Nrm p (xs.foldl (fun s _ => lcStep p s) s).2 ∧ (xs.foldl (fun s _ => lcStep p s) s).1.length ≤ N ∧ (xs.foldl (fun s _ => lcStep p s) s).2.length ≤ N
  | [], s, n1, n2, h1, h2 => ⟨n1, n2, h1, h2⟩
  | x :: xs, s, n1, n2, h1, h2 => by
    rw [List.foldl_cons]
    have h : Nrm p (lcStep p s).1 ∧ Nrm p (lcStep p s).2 ∧ (lcStep p s).1.length ≤ N ∧ (lcStep p s).2.length ≤ N := by
      unfold lcStep
      by_cases z : s.2 = []
      · rw [if_pos z]; exact ⟨n1, n2, h1, h2⟩
      · rw [if_neg z]; exact ⟨n2, prem_nrm hp.pos, h2, Nat.le_trans prem_len h1⟩
    exact lc_inv hp N xs (lcStep p s) h.1 h.2.1 h.2.2.1 h.2.2.2
end Cw
set_option maxHeartbeats 4000000
namespace Cw
open PySem PySem.Spec PyProof.Rows L2
/-! ### the promises of the law's helpers -/
def toldD (c : Cur) : D := .tup [.int c.1, inD c.2]
def lawHash (s i : Int) : Int := ((s * 1140671 + 27644437 * i * i + 131 * i + 19) % 2147483629 * ((s * 1140671 + 27644437 * i * i + 131 * i + 19) % 2147483629) + 62089 * i + 32416187) % 2147483587 * 48271 % 2147483647
def p__law_hash (ds : List D) (d : D) : Prop := ∃ s i, ds = [.int s, .int i] ∧ (0 ≤ s ∧ s < 2 ^ 32 ∧ 0 ≤ i ∧ i < 2 ^ 32) ∧ d = .int (lawHash s i)
def p__law_cell (ds : List D) (d : D) : Prop := ∃ (ns : List Int) (i : Int), ds = [.scr ns, .int i] ∧ (i = 0) ∧ d = .int (ns.headD 0)
def p__law_trim (ds : List D) (d : D) : Prop := ∃ p ns, ds = [.int p, inD ns] ∧ 0 < p ∧ ns.length ≤ 2 * LM ∧ d = inD (trim p ns)
def p__law_add (ds : List D) (d : D) : Prop := p_added ds d
def p__law_scale (ds : List D) (d : D) : Prop := p_scaled ds d
def p__law_mul (ds : List D) (d : D) : Prop := p_multiplied ds d
def p__law_power (ds : List D) (d : D) : Prop := p_power_of ds d
def p__law_back (ds : List D) (d : D) : Prop := p_inverse ds d
def p__law_rest (ds : List D) (d : D) : Prop := ∃ p a b, ds = [.int p, inD a, inD b] ∧ (Pm p ∧ a.length ≤ 200000 ∧ b.length ≤ 200000 ∧ b ≠ [] ∧ Nrm p b ∧ Nrm p a) ∧ d = inD (prem p a b)
def p__law_whole (ds : List D) (d : D) : Prop := ∃ p a b, ds = [.int p, inD a, inD b] ∧ (Pm p ∧ a.length ≤ 200000 ∧ b.length ≤ 200000 ∧ b ≠ [] ∧ Nrm p b ∧ Nrm p a) ∧ d = inD (pquo p a b)
def p__law_common (ds : List D) (d : D) : Prop := ∃ p a b, ds = [.int p, inD a, inD b] ∧ (Pm p ∧ a.length ≤ 200000 ∧ b.length ≤ 200000 ∧ Nrm p a ∧ Nrm p b) ∧ d = inD (lcF p a b)
def p__law_fall (ds : List D) (d : D) : Prop := p_slope_of ds d
def p__law_of (K : Fg) (ds : List D) (d : D) : Prop := ∃ c, ds = [toldD c] ∧ CvOk c ∧ d = cvD K c
structure TrIn (c : Cur) (T : Tri) (n : Nat) : Prop where
  n1 : Nrm c.1 T.1
  n2 : Nrm c.1 T.2.1
  n3 : Nrm c.1 T.2.2
  ne : T.2.2 ≠ []
  sz : Sz n T
def p__law_made (K : Fg) (ds : List D) (d : D) : Prop := ∃ c T, ds = [toldD c, triD T] ∧ (CvOk c ∧ TrIn c T 61) ∧ d = fnD K c (leastT c.1 T.1 T.2.1 T.2.2)
def p__law_seen (K : Fg) (ds : List D) (d : D) : Prop := ∃ c T, ds = [fnD K c T] ∧ True ∧ d = triD T
def p__law_nought (ds : List D) (d : D) : Prop := ∃ T : Tri, ds = [triD T] ∧ True ∧ d = .bl (decide (nought T))
def p__law_same (ds : List D) (d : D) : Prop := ∃ (c : Cur) (T U : Tri), ds = [toldD c, triD T, triD U] ∧ (Pm c.1 ∧ Nrm c.1 T.1 ∧ Nrm c.1 T.2.1 ∧ Nrm c.1 U.1 ∧ Nrm c.1 U.2.1 ∧ Sz 100000 T ∧ Sz 100000 U ∧ pmul c.1 T.1 U.2.2 = pmul c.1 U.1 T.2.2 ∧ pmul c.1 T.2.1 U.2.2 = pmul c.1 U.2.1 T.2.2) ∧ d = .bl true
def p__law_least (ds : List D) (d : D) : Prop := ∃ c T, ds = [toldD c, triD T] ∧ (Pm c.1 ∧ TrIn c T 200000) ∧ d = triD (leastT c.1 T.1 T.2.1 T.2.2)
def p__law_slope (ds : List D) (d : D) : Prop := ∃ c T, ds = [toldD c, triD T] ∧ (CvOk c ∧ FnIn c T 10000) ∧ d = triD (fSlope c T)
def p__law_parts (ds : List D) (d : D) : Prop := ∃ c T, ds = [toldD c, triD T] ∧ (CvOk c ∧ FnIn c T 3000) ∧ d = lsD triD (fParts c T)
section
variable {K : Fg} {G : Ctx} {ta tb : TE} {tl th : TO} {ns : List Int}
theorem ev_lenS (h : EvD K ta G (.scr ns)) : EvD K (tCB (fun xs H Q => ∃ p ys, xs = [V.ref p] ∧ (SqL K H p ys ∨ SqT K H p ys) ∧ Q (.int ys.length) H) (tCons ta tNil)) G (.int ns.length) := ev_cb (ea1 h) fun F H vs s hx Q q => by
  obtain ⟨v, r, rfl, h1, h2⟩ := hx
  cases h2
  obtain ⟨p, rfl, h3⟩ := h1
  exact ⟨p, _, rfl, .inl (sqL_mono s h3), q _ F H (Step.refl s) (by show V.int _ = V.int _; rw [List.length_map])⟩
theorem ev_ixS {j : Int} (h0 : 0 ≤ j) (hj : j < ns.length) (ha : EvD K ta G (.scr ns)) (hb : EvD K tb G (.int j)) : EvD K (tOp (rIxL K) ta tb) G (.int (cf ns j.toNat)) := ev_op ha hb fun F H x y s hx hy Q q => by
  obtain ⟨p, rfl, h1⟩ := hx
  cases hy
  refine ⟨p, _, j, .int (cf ns j.toNat), rfl, rfl, sqL_mono s h1, ?_, q _ F H (Step.refl s) rfl⟩
  obtain ⟨k, rfl⟩ : ∃ k : Nat, j = (k : Int) := ⟨j.toNat, by omega⟩
  rw [Int.toNat_natCast]
  refine atI_nat ?_
  rw [List.getElem?_map, cf_get (by omega)]
  rfl
theorem en_sliceS {lo hi : Option Int} (h : EvD K ta G (.scr ns)) (h1 : EvO K tl G lo) (h2 : EvO K th G hi) : EvN K (tSl (rSlL K) ta tl th) G (((ns.drop (HT.sIx ns.length 0 lo)).take (HT.sIx ns.length ns.length hi - HT.sIx ns.length 0 lo)).map D.int) := fun F0 H0 F H σ s Q q =>
  h F0 H0 F H σ s _ fun v F1 H1 t1 r1 => h1 F0 H0 F1 H1 σ (s.step t1) _ fun F2 H2 t2 => h2 F0 H0 F2 H2 σ ((s.step t1).step t2) _ fun F3 H3 t3 => by
    obtain ⟨p, rfl, h3⟩ := r1
    have t := t2.trans t3
    refine ⟨p, _, rfl, sqL_mono t.hh (sqL_mono t1.fh h3), fun l hl => q l _ F3 _ ((t1.trans t).trans (Step.newP t3.fh hl)) ((t1.trans t).hh.free hl) (t3.fh.free hl) upd_same ?_⟩
    unfold cutV
    rw [List.length_map, ← List.map_drop, ← List.map_take]
    exact Reps.ofInts
end
end Cw
set_option maxHeartbeats 4000000
namespace Cw
open Lean.Grind
/-! ### the derivative -/
namespace PS
variable {p : Int}
/-- x * d/dx -/
def th (u : PZ p) : PZ p := fun k => ZM.mk p k * u k
def Der (u : PZ p) : PZ p := fun k => ZM.mk p ((k + 1 : Nat) : Int) * u (k + 1)
theorem th_at (u : PZ p) (k : Nat) : th u k = ZM.mk p k * u k := rfl
theorem Der_at (u : PZ p) (k : Nat) : Der u k = ZM.mk p ((k + 1 : Nat) : Int) * u (k + 1) := rfl
theorem Der_sh (u : PZ p) : Der u = sh (th u) := rfl
theorem mkS (k : Nat) : ZM.mk p ((k + 1 : Nat) : Int) = ZM.mk p (k : Int) + 1 := by
  rw [← ZM.mk_one, ZM.mk_add]; rfl
theorem sh_th (u : PZ p) : sh (th u) = th (sh u) + sh u := PS.ext fun k => by
  rw [add_at, sh_at, th_at, th_at, sh_at, mkS]; grind
theorem th_mul' : ∀ (n : Nat) (u v : PZ p), th (u * v) n = (th u * v) n + (u * th v) n
  | 0, u, v => by
    have z : ZM.mk p ((0 : Nat) : Int) = 0 := rfl
    rw [th_at, mul_at0, mul_at0, mul_at0, th_at, th_at, z]; grind
  | n + 1, u, v => by
    have i := th_mul' n (sh u) v
    rw [th_at] at i
    rw [th_at, mul_atS, mul_atS, mul_atS, sh_th, add_mul', th_at, th_at, mkS]
    have z : ZM.mk p ((0 : Nat) : Int) = 0 := rfl
    rw [z]
    have e : (sh u * th v) n = ZM.mk p (n : Int) * (sh u * v) n - (th (sh u) * v) n := by rw [i]; grind
    rw [e]
    grind
theorem th_mul (u v : PZ p) : th (u * v) = th u * v + u * th v := PS.ext fun n => th_mul' n u v
theorem sh_mul0 (u v : PZ p) (h : u 0 = 0) : sh (u * v) = sh u * v := PS.ext fun n => by
  rw [sh_at, mul_atS, h]; grind
theorem Der_mul (u v : PZ p) : Der (u * v) = Der u * v + u * Der v := by
  have h0 : ∀ w : PZ p, th w 0 = 0 := fun w => by
    rw [th_at]
    have z : ZM.mk p ((0 : Nat) : Int) = 0 := rfl
    rw [z]; grind
  rw [Der_sh, Der_sh, Der_sh, th_mul]
  have e : sh (th u * v + u * th v) = sh (th u * v) + sh (th v * u) := by
    rw [show u * th v = th v * u by grind]; rfl
  rw [e, sh_mul0 _ _ (h0 u), sh_mul0 _ _ (h0 v)]; grind
theorem Der_add (u v : PZ p) : Der (u + v) = Der u + Der v := PS.ext fun k => by
  rw [add_at, Der_at, Der_at, Der_at, add_at]; grind
theorem Der_one : Der (1 : PZ p) = 0 := PS.ext fun k => by
  rw [Der_at, one_at, if_neg (by omega), zero_at]; grind
/-! ### p-th powers -/
/-- v(x ^ q) -/
def Fr {R : Type} [CommRing R] (q : Nat) (v : PS R) : PS R := fun k => if k % q = 0 then v (k / q) else 0
/-- the numbers at i, i + q, .. -/
def Ev {R : Type} [CommRing R] (q i : Nat) (u : PS R) : PS R := fun k => u (i + q * k)
end PS
theorem char_of {p : Int} {n : Nat} (hp : p = (n : Int)) (x y : Nat) : (OfNat.ofNat x : PZ p) = OfNat.ofNat y ↔ x % n = y % n := by
  constructor
  · intro h
    have h0 : ZM.mk p (x : Int) = ZM.mk p (y : Int) := congrFun h 0
    have h1 := ZM.exact h0
    rw [hp, ← Int.natCast_emod, ← Int.natCast_emod] at h1
    exact Int.ofNat.inj h1
  · intro h
    have : ZM.mk p (x : Int) = ZM.mk p (y : Int) := ZM.sound (by rw [hp, ← Int.natCast_emod, ← Int.natCast_emod, h])
    exact congrArg PS.C this
instance char3 : IsCharP (PS (ZM 3)) 3 := ⟨fun {x y} => char_of rfl x y⟩
instance char5 : IsCharP (PS (ZM 5)) 5 := ⟨fun {x y} => char_of rfl x y⟩
instance char7 : IsCharP (PS (ZM 7)) 7 := ⟨fun {x y} => char_of rfl x y⟩
instance char11 : IsCharP (PS (ZM 11)) 11 := ⟨fun {x y} => char_of rfl x y⟩
instance char13 : IsCharP (PS (ZM 13)) 13 := ⟨fun {x y} => char_of rfl x y⟩
theorem add3 (a b : PS (ZM 3)) : (a + b) ^ 3 = a ^ 3 + b ^ 3 := by grind
theorem add5 (a b : PS (ZM 5)) : (a + b) ^ 5 = a ^ 5 + b ^ 5 := by grind
theorem add7 (a b : PS (ZM 7)) : (a + b) ^ 7 = a ^ 7 + b ^ 7 := by grind
theorem add11 (a b : PS (ZM 11)) : (a + b) ^ 11 = a ^ 11 + b ^ 11 := by grind
theorem add13 (a b : PS (ZM 13)) : (a + b) ^ 13 = a ^ 13 + b ^ 13 := by grind
theorem add_pow {p : Int} (hp : Pm p) (a b : PZ p) : (a + b) ^ p.toNat = a ^ p.toNat + b ^ p.toNat := by
  rcases hp with rfl | rfl | rfl | rfl | rfl
  · exact add3 a b
  · exact add5 a b
  · exact add7 a b
  · exact add11 a b
  · exact add13 a b
namespace PS
variable {p : Int}
theorem mul_pow' (a b : PZ p) : ∀ n : Nat, (a * b) ^ n = a ^ n * b ^ n
  | 0 => by rw [Semiring.pow_zero, Semiring.pow_zero, Semiring.pow_zero]; grind
  | n + 1 => by rw [Semiring.pow_succ, Semiring.pow_succ, Semiring.pow_succ, mul_pow' a b n]; grind
theorem X_pow : ∀ n : Nat, (X 1 : PZ p) ^ n = X n
  | 0 => by rw [Semiring.pow_zero]; rfl
  | n + 1 => by rw [Semiring.pow_succ, X_pow n, X_add]
theorem C_pow (a : Int) : ∀ n : Nat, (C (ZM.mk p a) : PZ p) ^ n = C (ZM.mk p (a ^ n))
  | 0 => by rw [Semiring.pow_zero, Int.pow_zero]; rfl
  | n + 1 => by rw [Semiring.pow_succ, C_pow a n, ← C_mulC, ZM.mk_mul, Int.pow_succ]
theorem split (v : PZ p) : v = C (v 0) + X 1 * sh v := PS.ext fun k => by
  rw [add_at, X_mul]
  cases k with
  | zero => rw [C_0, if_neg (by omega)]; grind
  | succ k => rw [C_S, if_pos (by omega), Nat.add_sub_cancel, sh_at]; grind
end PS
theorem fermat {p : Int} (hp : Pm p) (a : Int) : a ^ p.toNat % p = a % p := by
  have key : ∀ n : Nat, a ^ n % p = (a % p) ^ n % p := by
    intro n
    induction n with
    | zero => rw [Int.pow_zero, Int.pow_zero]
    | succ n ih => rw [Int.pow_succ, Int.pow_succ, Int.mul_emod, ih, Int.mul_emod ((a % p) ^ n) (a % p), Int.emod_emod_of_dvd _ (Int.dvd_refl p)]
  rw [key]
  have h0 := Int.emod_nonneg a (b := p) (by have := hp.pos; omega)
  have h1 := Int.emod_lt_of_pos a hp.pos
  generalize a % p = r at h0 h1 ⊢
  have h3 : r = 0 ∨ r = 1 ∨ r = 2 ∨ r = 3 ∨ r = 4 ∨ r = 5 ∨ r = 6 ∨ r = 7 ∨ r = 8 ∨ r = 9 ∨ r = 10 ∨ r = 11 ∨ r = 12 := by
    have := hp.le
    omega
  rcases hp with rfl | rfl | rfl | rfl | rfl <;> rcases h3 with rfl | rfl | rfl | rfl | rfl | rfl | rfl | rfl | rfl | rfl | rfl | rfl | rfl <;> first
    | omega
    | decide
namespace PS
variable {p : Int}
theorem C_fermat (hp : Pm p) (c : ZM p) : (C c : PZ p) ^ p.toNat = C c := by
  induction c using ZM.ind with
  | h a => rw [C_pow, show ZM.mk p (a ^ p.toNat) = ZM.mk p a from ZM.sound (fermat hp a)]
/-- the p-th power of a series -/
theorem frob (hp : Pm p) : ∀ (k : Nat) (v : PZ p), (v ^ p.toNat) k = Fr p.toNat v k := by
  intro k
  induction k using Nat.strongRecOn with
  | ind k ih =>
    intro v
    have hpg := hp.ge
    have e : v ^ p.toNat = C (v 0) + X p.toNat * sh v ^ p.toNat := by
      rw [show v ^ p.toNat = (C (v 0) + X 1 * sh v) ^ p.toNat by rw [← split], add_pow hp, C_fermat hp, mul_pow', X_pow]
    rw [e, add_at, X_mul]
    show _ = if k % p.toNat = 0 then v (k / p.toNat) else 0
    by_cases hk : p.toNat ≤ k
    · rw [if_pos hk, ih (k - p.toNat) (by omega)]
      show _ + (if (k - p.toNat) % p.toNat = 0 then sh v ((k - p.toNat) / p.toNat) else 0) = _
      have e1 : (k - p.toNat) % p.toNat = k % p.toNat := by
        rw [Nat.mod_eq_sub_mod hk]
      have e2 : k / p.toNat = (k - p.toNat) / p.toNat + 1 := Nat.div_eq_sub_div (by omega) hk
      rw [e1, e2]
      obtain ⟨j, rfl⟩ : ∃ j, k = j + 1 := ⟨k - 1, by omega⟩
      rw [C_S, sh_at]; grind
    · rw [if_neg hk]
      by_cases h0 : k = 0
      · subst h0
        rw [C_0, Nat.zero_mod, if_pos rfl, Nat.zero_div]; grind
      · obtain ⟨j, rfl⟩ : ∃ j, k = j + 1 := ⟨k - 1, by omega⟩
        rw [C_S, Nat.mod_eq_of_lt (by omega), if_neg (by omega)]; grind
theorem pow_fr (hp : Pm p) (v : PZ p) : v ^ p.toNat = Fr p.toNat v := PS.ext fun k => frob hp k v
theorem Der_fr (hp : Pm p) (v : PZ p) : Der (Fr p.toNat v) = 0 := PS.ext fun k => by
  have hpg := hp.ge
  rw [Der_at, zero_at]
  show _ * (if (k + 1) % p.toNat = 0 then v ((k + 1) / p.toNat) else 0) = 0
  by_cases h : (k + 1) % p.toNat = 0
  · rw [if_pos h, show ZM.mk p ((k + 1 : Nat) : Int) = 0 from ZM.eq_zero.mpr (by
      obtain ⟨q, hq⟩ : ∃ q : Nat, p = (q : Int) := ⟨p.toNat, by omega⟩
      subst hq
      rw [Int.toNat_natCast] at h
      rw [← Int.natCast_emod, h]; rfl)]
    grind
  · rw [if_neg h]; grind
theorem Der_pow (hp : Pm p) (v : PZ p) : Der (v ^ p.toNat) = 0 := by rw [pow_fr hp, Der_fr hp]
theorem Fr_split {q : Nat} (hq : 0 < q) (v : PZ p) : Fr q v = C (v 0) + X q * Fr q (sh v) := PS.ext fun k => by
  rw [add_at, X_mul]
  show (if k % q = 0 then v (k / q) else 0) = _ + if q ≤ k then (if (k - q) % q = 0 then sh v ((k - q) / q) else 0) else 0
  by_cases hk : q ≤ k
  · rw [if_pos hk, ← Nat.mod_eq_sub_mod hk, Nat.div_eq_sub_div hq hk]
    obtain ⟨j, rfl⟩ : ∃ j, k = j + 1 := ⟨k - 1, by omega⟩
    rw [C_S, sh_at]; grind
  · rw [if_neg hk]
    by_cases h0 : k = 0
    · subst h0
      rw [C_0, Nat.zero_mod, if_pos rfl, Nat.zero_div]; grind
    · obtain ⟨j, rfl⟩ : ∃ j, k = j + 1 := ⟨k - 1, by omega⟩
      rw [C_S, Nat.mod_eq_of_lt (by omega), if_neg (by omega)]; grind
/-- numbers at i, i + q, .. of u * v(x ^ q) -/
theorem Ev_fr' {q i : Nat} (hi : i < q) (u : PZ p) : ∀ (k : Nat) (v : PZ p), (u * Fr q v) (i + q * k) = (Ev q i u * v) k := by
  have e : ∀ v : PZ p, u * Fr q v = C (v 0) * u + X q * (u * Fr q (sh v)) := fun v => by
    rw [Fr_split (by omega) v]; grind
  intro k
  induction k with
  | zero =>
    intro v
    rw [e, add_at, C_mul, X_mul, if_neg (by omega), mul_at0]
    show _ = u (i + q * 0) * v 0
    grind
  | succ k ih =>
    intro v
    rw [e, add_at, C_mul, X_mul, Nat.mul_succ, if_pos (by omega), show i + (q * k + q) - q = i + q * k by omega, ih (sh v), mul_atS']
    show _ = u (i + q * (k + 1)) * v 0 + _
    rw [Nat.mul_succ]; grind
theorem Ev_fr {q i : Nat} (hi : i < q) (u v : PZ p) : Ev q i (u * Fr q v) = Ev q i u * v := PS.ext fun k => Ev_fr' hi u k v
theorem Ev_add {q i : Nat} (u v : PZ p) : Ev q i (u + v) = Ev q i u + Ev q i v := rfl
theorem Ev_sub {q i : Nat} (u v : PZ p) : Ev q i (u - v) = Ev q i u - Ev q i v := rfl
/-- what a slope lacks -/
theorem Ev_Der (hp : Pm p) (u : PZ p) : Ev p.toNat (p.toNat - 1) (Der u) = 0 := PS.ext fun k => by
  have hpg := hp.ge
  rw [zero_at]
  show ZM.mk p ((p.toNat - 1 + p.toNat * k + 1 : Nat) : Int) * _ = 0
  rw [show ZM.mk p ((p.toNat - 1 + p.toNat * k + 1 : Nat) : Int) = 0 from ZM.eq_zero.mpr (by
    obtain ⟨q, hq⟩ : ∃ q : Nat, p = (q : Int) := ⟨p.toNat, by omega⟩
    subst hq
    rw [Int.toNat_natCast, show q - 1 + q * k + 1 = q * (k + 1) by rw [Nat.mul_succ]; omega]
    rw [← Int.natCast_emod, Nat.mul_mod_right]; rfl)]
  grind
/-- the source -/
def In (p : Int) (iv : Int → Int) (u : PZ p) : PZ p := fun k => if k = 0 then 0 else if k % p.toNat = 0 then 0 else ZM.mk p (iv ((k : Int) % p)) * u (k - 1)
end PS
theorem inv_mk {p : Int} (hp : Pm p) {k : Nat} (h : k % p.toNat ≠ 0) : ZM.mk p (pinv p ((k : Int) % p)) * ZM.mk p (k : Int) = 1 := by
  have hpg := hp.ge
  have h1 : (k : Int) % p ≠ 0 := by
    obtain ⟨q, hq⟩ : ∃ q : Nat, p = (q : Int) := ⟨p.toNat, by omega⟩
    subst hq
    rw [Int.toNat_natCast] at h
    rw [← Int.natCast_emod]; omega
  obtain ⟨k1, k2, k3⟩ := pinv_mem hp (n := (k : Int) % p) (by rw [Int.emod_emod_of_dvd _ (Int.dvd_refl p)]; exact h1)
  rw [ZM.mk_mul, ← ZM.mk_one]
  apply ZM.sound
  rw [Int.mul_emod, Int.emod_emod_of_dvd _ (Int.dvd_refl p)] at k3
  rw [Int.mul_emod, k3]
  exact (Int.emod_eq_of_lt (by omega) (by omega)).symm
namespace PS
variable {p : Int}
abbrev J (p : Int) (u : PZ p) : PZ p := In p (pinv p) u
theorem Der_J (hp : Pm p) (u : PZ p) (h : Ev p.toNat (p.toNat - 1) u = 0) : Der (J p u) = u := PS.ext fun k => by
  have hpg := hp.ge
  rw [Der_at]
  show _ * (if k + 1 = 0 then 0 else if (k + 1) % p.toNat = 0 then 0 else ZM.mk p (pinv p (((k + 1 : Nat) : Int) % p)) * u k) = _
  rw [if_neg (by omega)]
  by_cases hk : (k + 1) % p.toNat = 0
  · rw [if_pos hk]
    have h1 : u k = 0 := by
      have := congrFun h (k / p.toNat)
      rw [zero_at] at this
      have e : p.toNat - 1 + p.toNat * (k / p.toNat) = k := by
        have h2 := Nat.mod_add_div k p.toNat
        have h3 : k % p.toNat = p.toNat - 1 := by
          have h4 := Nat.mod_add_div (k + 1) p.toNat
          have h5 := Nat.mod_lt k (show 0 < p.toNat by omega)
          rw [hk, Nat.zero_add] at h4
          have h6 : k + 1 = p.toNat * (k / p.toNat) + (k % p.toNat + 1) := by omega
          have h7 : (k % p.toNat + 1) % p.toNat = 0 := by
            have := hk
            rw [h6, Nat.mul_add_mod] at this
            exact this
          by_cases h8 : k % p.toNat + 1 < p.toNat
          · rw [Nat.mod_eq_of_lt h8] at h7; omega
          · omega
        omega
      have t : Ev p.toNat (p.toNat - 1) u (k / p.toNat) = u (p.toNat - 1 + p.toNat * (k / p.toNat)) := rfl
      rw [t, e] at this
      exact this
    rw [h1]; grind
  · rw [if_neg hk]
    have := inv_mk hp hk
    grind
theorem Ev_J (hp : Pm p) (u : PZ p) : Ev p.toNat 0 (J p u) = 0 := PS.ext fun k => by
  rw [zero_at]
  show (if 0 + p.toNat * k = 0 then (0 : ZM p) else if (0 + p.toNat * k) % p.toNat = 0 then 0 else _) = 0
  by_cases h : 0 + p.toNat * k = 0
  · rw [if_pos h]
  · rw [if_neg h, if_pos (by rw [Nat.zero_add, Nat.mul_mod_right])]
theorem J_Der (hp : Pm p) (u : PZ p) : J p (Der u) = u - Fr p.toNat (Ev p.toNat 0 u) := PS.ext fun k => by
  have hpg := hp.ge
  rw [sub_at]
  show (if k = 0 then 0 else if k % p.toNat = 0 then 0 else ZM.mk p (pinv p ((k : Int) % p)) * (ZM.mk p ((k - 1 + 1 : Nat) : Int) * u (k - 1 + 1))) = u k - if k % p.toNat = 0 then u (0 + p.toNat * (k / p.toNat)) else 0
  by_cases h0 : k = 0
  · subst h0
    rw [if_pos rfl, Nat.zero_mod, if_pos rfl, Nat.zero_div]
    simp only [Nat.mul_zero, Nat.add_zero]
    grind
  · rw [if_neg h0]
    by_cases h : k % p.toNat = 0
    · have := Nat.mod_add_div k p.toNat
      rw [if_pos h, if_pos h, show 0 + p.toNat * (k / p.toNat) = k by omega]; grind
    · rw [if_neg h, if_neg h, show k - 1 + 1 = k by omega]
      have := inv_mk hp h
      grind
end PS
end Cw
set_option maxHeartbeats 4000000
namespace Cw
open Lean.Grind
section
variable {p : Int}
theorem anti_uniq (hp : Pm p) {u v : PZ p} (h : PS.Der u = PS.Der v) (h0 : PS.Ev p.toNat 0 u = PS.Ev p.toNat 0 v) : u = v := PS.ext fun k => by
  have hpg := hp.ge
  by_cases hk : k % p.toNat = 0
  · have e : PS.Ev p.toNat 0 u (k / p.toNat) = PS.Ev p.toNat 0 v (k / p.toNat) := by rw [h0]
    have e2 : ∀ w : PZ p, PS.Ev p.toNat 0 w (k / p.toNat) = w (0 + p.toNat * (k / p.toNat)) := fun _ => rfl
    have := Nat.mod_add_div k p.toNat
    rw [e2, e2, show 0 + p.toNat * (k / p.toNat) = k by omega] at e
    exact e
  · have e : PS.Der u (k - 1) = PS.Der v (k - 1) := by rw [h]
    have hk0 : k ≠ 0 := fun z => hk (by rw [z, Nat.zero_mod])
    rw [PS.Der_at, PS.Der_at, show k - 1 + 1 = k by omega] at e
    have i := inv_mk hp hk
    have : u k = ZM.mk p (pinv p ((k : Int) % p)) * (ZM.mk p (k : Int) * u k) := by grind
    rw [this, e]; grind
theorem cf_tail (l : List Int) (k : Nat) : cf l.tail k = cf l (k + 1) := by
  cases l with
  | nil => rfl
  | cons x r => rfl
theorem cf_enum (l : List Int) (k : Nat) : cf ((enumI l).map fun q : Int × Int => q.1 * q.2) k = (k : Int) * cf l k := by
  unfold enumI
  by_cases h : k < l.length
  · have h1 : cf (List.map (fun q : Int × Int => q.1 * q.2) (List.mapIdx (fun i a => ((i : Int), a)) l)) k = (k : Int) * l[k] := by
      unfold cf
      rw [List.getD_eq_getElem?_getD, List.getElem?_map, List.getElem?_mapIdx, List.getElem?_eq_getElem h]
      rfl
    have h2 := cf_get h
    rw [List.getElem?_eq_getElem h] at h2
    rw [h1, Option.some.inj h2]
  · rw [cf_out (by simp; omega), cf_out (by omega), Int.mul_zero]
theorem ps_pder {l : List Int} : ps p (pder p l) = PS.Der (ps p l) := PS.ext fun k => by
  unfold pder
  rw [ps_trim, ps_at, cf_tail, cf_enum, PS.Der_at, ps_at, ZM.mk_mul]
theorem ps_every (hp : 0 < p) {l : List Int} (i : Nat) : ps p (pEvery p l (i : Int)) = PS.Ev p.toNat i (ps p l) := PS.ext fun k => by
  unfold pEvery
  rw [ps_trim, ps_at]
  obtain ⟨q, rfl⟩ : ∃ q : Nat, p = (q : Int) := ⟨p.toNat, by omega⟩
  rw [pick_cf (by omega)]
  rfl
theorem ps_stretch (hp : 0 < p) {l : List Int} : ps p (pStretch p l) = PS.Fr p.toNat (ps p l) := PS.ext fun k => by
  obtain ⟨q, rfl⟩ : ∃ q : Nat, p = (q : Int) := ⟨p.toNat, by omega⟩
  rw [ps_at, cf_stretch (by omega), Int.toNat_natCast]
  show _ = if k % q = 0 then ps _ l (k / q) else 0
  split
  · rfl
  · rfl
theorem cf_srG (acc : List Int) (g : Int → Int → Int) : ∀ l : List Int, l.length < acc.length → ∀ k, cf ((enumI l).foldl (fun s q => if q.2 = 0 then s else s.set (q.1 + 1).toNat (g q.1 q.2)) acc) k = if k = 0 then cf acc 0 else if k - 1 < l.length ∧ cf l (k - 1) ≠ 0 then g ((k - 1 : Nat) : Int) (cf l (k - 1)) else cf acc k := by
  refine snoc_ind ?_ fun l x ih => ?_
  · intro _ k
    simp only [enumI, List.mapIdx_nil, List.foldl_nil, List.length_nil, Nat.not_lt_zero, false_and, if_false]
    split
    · rename_i h; rw [h]
    · rfl
  · intro h k
    rw [List.length_append] at h
    have h' : l.length + 1 < acc.length := h
    have ih' := ih (by omega)
    rw [enumI_snoc, List.foldl_append]
    have hlen : (List.foldl (fun s (q : Int × Int) => if q.2 = 0 then s else s.set (q.1 + 1).toNat (g q.1 q.2)) acc (enumI l)).length = acc.length := foldl_len _ (fun _ _ => by split <;> simp) _ _
    show cf (if x = 0 then List.foldl _ acc (enumI l) else (List.foldl _ acc (enumI l)).set ((l.length : Int) + 1).toNat (g (l.length : Int) x)) k = _
    have e : ((l.length : Int) + 1).toNat = l.length + 1 := by omega
    have hl2 : (l ++ [x]).length = l.length + 1 := by simp
    rw [e, hl2]
    by_cases hx : x = 0
    · rw [if_pos hx, ih']
      by_cases hk : k = 0
      · rw [if_pos hk, if_pos hk]
      · rw [if_neg hk, if_neg hk, cf_snoc]
        by_cases h2 : k - 1 = l.length
        · rw [if_pos h2, if_neg (by omega), if_neg (by intro z; exact z.2 hx)]
        · rw [if_neg h2]
          by_cases h3 : k - 1 < l.length ∧ cf l (k - 1) ≠ 0
          · rw [if_pos h3, if_pos ⟨by omega, h3.2⟩]
          · rw [if_neg h3, if_neg (by intro z; exact h3 ⟨by omega, z.2⟩)]
    · rw [if_neg hx, cf_set (by rw [hlen]; omega), ih']
      by_cases hk : k = 0
      · rw [if_neg (by omega), if_pos hk, if_pos hk]
      · rw [if_neg hk, if_neg hk, cf_snoc]
        by_cases h2 : k = l.length + 1
        · rw [if_pos h2, if_pos (show k - 1 = l.length by omega), if_pos ⟨by omega, hx⟩, show k - 1 = l.length by omega]
        · rw [if_neg h2, if_neg (show ¬ k - 1 = l.length by omega)]
          by_cases h3 : k - 1 < l.length ∧ cf l (k - 1) ≠ 0
          · rw [if_pos h3, if_pos ⟨by omega, h3.2⟩]
          · rw [if_neg h3, if_neg (by intro z; exact h3 ⟨by omega, z.2⟩)]
theorem ps_src (hp : Pm p) {l : List Int} (hz : ∀ k : Nat, (k : Int) % p = p - 1 → cf l k = 0) : ps p (pSrc p l) = PS.J p (ps p l) := PS.ext fun k => by
  have hpg := hp.ge
  unfold pSrc srF
  rw [ps_trim, ps_at, cf_srG _ (fun i x => x * pinv p (i % p + 1)) l (by rw [List.length_replicate]; omega)]
  show _ = if k = 0 then 0 else if k % p.toNat = 0 then 0 else ZM.mk p (pinv p ((k : Int) % p)) * ps p l (k - 1)
  by_cases h0 : k = 0
  · rw [if_pos h0, if_pos h0, cf_rep]; rfl
  · rw [if_neg h0, if_neg h0, cf_rep]
    obtain ⟨q, rfl⟩ : ∃ q : Nat, p = (q : Int) := ⟨p.toNat, by omega⟩
    rw [Int.toNat_natCast]
    have hkm : ((k - 1 : Nat) : Int) % (q : Int) = ((k - 1) % q : Nat) := by rw [Int.natCast_emod]
    have hm := Nat.mod_lt (k - 1) (show 0 < q by omega)
    have hs : k % q = if (k - 1) % q + 1 = q then 0 else (k - 1) % q + 1 := by
      have h2 : k = q * ((k - 1) / q) + ((k - 1) % q + 1) := by
        have := Nat.mod_add_div (k - 1) q
        omega
      have h3 : k % q = ((k - 1) % q + 1) % q := by
        conv => lhs; rw [h2, Nat.mul_add_mod]
      rw [h3]
      by_cases h4 : (k - 1) % q + 1 = q
      · rw [if_pos h4, h4, Nat.mod_self]
      · rw [if_neg h4, Nat.mod_eq_of_lt (by omega)]
    by_cases h4 : (k - 1) % q + 1 = q
    · have h5 := hz (k - 1) (by rw [hkm]; omega)
      rw [if_neg (show ¬ (k - 1 < l.length ∧ cf l (k - 1) ≠ 0) from fun z => z.2 h5), if_pos (show k % q = 0 by rw [hs, if_pos h4])]
      rfl
    · have hne : ¬ k % q = 0 := by rw [hs, if_neg h4]; omega
      rw [if_neg hne]
      have e1 : (k : Int) % (q : Int) = ((k - 1 : Nat) : Int) % (q : Int) + 1 := by
        rw [hkm, ← Int.natCast_emod, hs, if_neg h4]; rfl
      rw [e1, ps_at, ZM.mk_mul]
      by_cases h6 : k - 1 < l.length ∧ cf l (k - 1) ≠ 0
      · rw [if_pos h6, Int.mul_comm]
      · rw [if_neg h6]
        have h7 : cf l (k - 1) = 0 := by
          by_cases h8 : k - 1 < l.length
          · exact Classical.byContradiction fun z => h6 ⟨h8, z⟩
          · exact cf_out (by omega)
        rw [h7, Int.mul_zero]
end
end Cw
set_option maxHeartbeats 4000000
namespace Cw
open Lean.Grind
section
variable {p : Int}
theorem C_two : (PS.C (ZM.mk p 2) : PZ p) = 1 + 1 := by
  have : ZM.mk p 2 = ZM.mk p 1 + ZM.mk p 1 := rfl
  rw [this, PS.C_add]; rfl
theorem slope_alg (hp : Pm p) {b t s f B F P Pf u1 u2 u3 : PZ p} (hB : B * b = P) (hP : PS.Der P = 0) (hF : F * F = Pf * f) (hPf : PS.Der Pf = 0) (nf : PS.C (ZM.mk p 2) * f ≠ 0) (nb : b ≠ 0) (nF : F ≠ 0)
    (c1 : u1 * (b * b * (PS.C (ZM.mk p 2) * f)) = (PS.Der t * b - t * PS.Der b) * (PS.C (ZM.mk p 2) * f) * u3)
    (c2 : u2 * (b * b * (PS.C (ZM.mk p 2) * f)) = ((PS.Der s * b - s * PS.Der b) * (PS.C (ZM.mk p 2) * f) + s * PS.Der f * b) * u3) :
    u1 * P = PS.Der (t * B) * u3 ∧ u2 * (F * P) = PS.Der (s * B * F) * u3 := by
  have d1 : PS.Der B * b + B * PS.Der b = 0 := by rw [← PS.Der_mul, hB, hP]
  have d2 : PS.Der F * F + F * PS.Der F = Pf * PS.Der f := by
    rw [← PS.Der_mul, hF, PS.Der_mul, hPf]; grind
  have d3 : (1 + 1) * f * PS.Der F = F * PS.Der f := PS.cancel hp nF (by
    have : (1 + 1) * f * PS.Der F * F = f * (PS.Der F * F + F * PS.Der F) := by grind
    rw [this, d2]
    have : f * (Pf * PS.Der f) = (Pf * f) * PS.Der f := by grind
    rw [this, ← hF]; grind)
  have nn : b * b * (PS.C (ZM.mk p 2) * f) ≠ 0 := fun z => by
    rcases PS.dom hp z with z | z
    · rcases PS.dom hp z with z | z <;> exact nb z
    · exact nf z
  rw [C_two] at c1 c2 nn
  refine ⟨PS.cancel hp nn ?_, PS.cancel hp nn ?_⟩
  · rw [PS.Der_mul]
    have e1 : u1 * P * (b * b * ((1 + 1) * f)) = P * (u1 * (b * b * ((1 + 1) * f))) := by grind
    have e2 : (PS.Der t * B + t * PS.Der B) * u3 * (b * b * ((1 + 1) * f)) = (PS.Der t * (B * b) * b + t * b * (PS.Der B * b)) * ((1 + 1) * f) * u3 := by grind
    rw [e1, c1, e2, hB, show PS.Der B * b = -(B * PS.Der b) by grind]
    rw [← hB]; grind
  · rw [PS.Der_mul, PS.Der_mul]
    have e1 : u2 * (F * P) * (b * b * ((1 + 1) * f)) = F * P * (u2 * (b * b * ((1 + 1) * f))) := by grind
    have e2 : ((PS.Der s * B + s * PS.Der B) * F + s * B * PS.Der F) * u3 * (b * b * ((1 + 1) * f)) = ((PS.Der s * (B * b) * b + s * b * (PS.Der B * b)) * F * ((1 + 1) * f) + s * (B * b) * b * ((1 + 1) * f * PS.Der F)) * u3 := by grind
    rw [e1, c2, e2, hB, d3, show PS.Der B * b = -(B * PS.Der b) by grind]
    rw [← hB]; grind
theorem half (hp : Pm p) : ((p + 1) / 2).toNat + ((p + 1) / 2).toNat = p.toNat + 1 := by rcases hp with rfl | rfl | rfl | rfl | rfl <;> rfl
theorem pow_dup {a : PZ p} (n m : Nat) : a ^ n * a ^ m = a ^ (n + m) := by
  induction m with
  | zero => rw [Semiring.pow_zero, Nat.add_zero]; grind
  | succ m ih => rw [Semiring.pow_succ, Nat.add_succ, Semiring.pow_succ, ← ih]; grind
theorem pow_ne (hp : Pm p) {a : PZ p} (h : a ≠ 0) : ∀ n : Nat, a ^ n ≠ 0
  | 0 => by rw [Semiring.pow_zero]; exact PS.one_ne hp
  | n + 1 => fun z => by
    rw [Semiring.pow_succ] at z
    rcases PS.dom hp z with z | z
    · exact pow_ne hp h n z
    · exact h z
end
/-- what is known of a curve's and a function's series -/
structure Fk (c : Cur) (T : Tri) : Prop where
  nb : ps c.1 T.2.2 ≠ 0
  nf : ps c.1 c.2 ≠ 0
  n2 : PS.C (ZM.mk c.1 2) * ps c.1 c.2 ≠ 0
  nF : ps c.1 c.2 ^ ((c.1 + 1) / 2).toNat ≠ 0
  hB : ps c.1 T.2.2 ^ (c.1 - 1).toNat * ps c.1 T.2.2 = ps c.1 T.2.2 ^ c.1.toNat
  hF : ps c.1 c.2 ^ ((c.1 + 1) / 2).toNat * ps c.1 c.2 ^ ((c.1 + 1) / 2).toNat = ps c.1 c.2 ^ c.1.toNat * ps c.1 c.2
section
variable {c : Cur} {T U V : Tri}
theorem fk (cv : CvOk c) (hT : LsOk c.1 T) : Fk c T where
  nb := ps_ne cv.pos hT.n3 hT.ne
  nf := ps_ne cv.pos cv.nr cv.ne
  n2 := fun z => ps_ne cv.pos (trim_nrm cv.pos _) (twice_ne cv.pm cv.nr cv.ne) (by
    show ps c.1 (pscl c.1 c.2 2) = 0
    rw [ps_pscl]; exact z)
  nF := pow_ne cv.pm (ps_ne cv.pos cv.nr cv.ne) _
  hB := by
    have := cv.pm.ge
    rw [← Semiring.pow_succ, show (c.1 - 1).toNat + 1 = c.1.toNat by omega]
  hF := by rw [pow_dup, half cv.pm, Semiring.pow_succ]
theorem ps_low : ps c.1 (fLow c T) = ps c.1 T.1 * ps c.1 T.2.2 ^ (c.1 - 1).toNat := by
  unfold fLow
  rw [ps_pmul, ps_ppow]
theorem ps_high : ps c.1 (fHigh c T) = ps c.1 T.2.1 * ps c.1 T.2.2 ^ (c.1 - 1).toNat * ps c.1 c.2 ^ ((c.1 + 1) / 2).toNat := by
  unfold fHigh
  rw [ps_pmul, ps_pmul, ps_ppow, ps_ppow]
theorem slope_ls (cv : CvOk c) (hT : LsOk c.1 T) : LsOk c.1 (fSlope c T) :=
  (least_ok cv.pm (trim_nrm cv.pos _) (trim_nrm cv.pos _) (trim_nrm cv.pos _) (pmul_ne cv.pm (trim_nrm cv.pos _) (trim_nrm cv.pos _) (pmul_ne cv.pm hT.n3 hT.n3 hT.ne hT.ne) (twice_ne cv.pm cv.nr cv.ne))).1
/-- the slope, in the other form -/
theorem slope_eq (cv : CvOk c) (hT : LsOk c.1 T) : ps c.1 (fSlope c T).1 * ps c.1 T.2.2 ^ c.1.toNat = PS.Der (ps c.1 (fLow c T)) * ps c.1 (fSlope c T).2.2 ∧
    ps c.1 (fSlope c T).2.1 * (ps c.1 c.2 ^ ((c.1 + 1) / 2).toNat * ps c.1 T.2.2 ^ c.1.toNat) = PS.Der (ps c.1 (fHigh c T)) * ps c.1 (fSlope c T).2.2 := by
  have k := fk cv hT
  rw [ps_low, ps_high]
  have lc := least_cross cv.pm (t := pmul c.1 (psub c.1 (pmul c.1 (pder c.1 T.1) T.2.2) (pmul c.1 T.1 (pder c.1 T.2.2))) (pscl c.1 c.2 2)) (s := padd c.1 (pmul c.1 (psub c.1 (pmul c.1 (pder c.1 T.2.1) T.2.2) (pmul c.1 T.2.1 (pder c.1 T.2.2))) (pscl c.1 c.2 2)) (pmul c.1 (pmul c.1 T.2.1 (pder c.1 c.2)) T.2.2)) (b := pmul c.1 (pmul c.1 T.2.2 T.2.2) (pscl c.1 c.2 2)) (trim_nrm cv.pos _) (trim_nrm cv.pos _) (trim_nrm cv.pos _) (pmul_ne cv.pm (trim_nrm cv.pos _) (trim_nrm cv.pos _) (pmul_ne cv.pm hT.n3 hT.n3 hT.ne hT.ne) (twice_ne cv.pm cv.nr cv.ne))
  obtain ⟨l1, l2⟩ := lc
  rw [show leastT c.1 (pmul c.1 (psub c.1 (pmul c.1 (pder c.1 T.1) T.2.2) (pmul c.1 T.1 (pder c.1 T.2.2))) (pscl c.1 c.2 2)) (padd c.1 (pmul c.1 (psub c.1 (pmul c.1 (pder c.1 T.2.1) T.2.2) (pmul c.1 T.2.1 (pder c.1 T.2.2))) (pscl c.1 c.2 2)) (pmul c.1 (pmul c.1 T.2.1 (pder c.1 c.2)) T.2.2)) (pmul c.1 (pmul c.1 T.2.2 T.2.2) (pscl c.1 c.2 2)) = fSlope c T from rfl] at l1 l2
  generalize fSlope c T = W at l1 l2 ⊢
  simp only [ps_pmul, ps_psub, ps_padd, ps_pscl, ps_pder] at l1 l2
  refine slope_alg cv.pm k.hB (PS.Der_pow cv.pm _) k.hF (PS.Der_pow cv.pm _) k.n2 k.nb k.nF l1 ?_
  rw [l2]
theorem last_iff (cv : CvOk c) (hT : LsOk c.1 T) (i : Nat) : nought (fPart c T (i : Int)) ↔ PS.Ev c.1.toNat i (ps c.1 (fLow c T)) = 0 ∧ PS.Ev c.1.toNat i (ps c.1 (fHigh c T)) = 0 := by
  have hp := cv.pos
  obtain ⟨ok, k, hk, k1, k2, _⟩ := least_ok cv.pm (t := pmul c.1 (pEvery c.1 (fLow c T) (i : Int)) c.2) (s := pEvery c.1 (fHigh c T) (i : Int)) (b := pmul c.1 T.2.2 c.2) (trim_nrm hp _) (trim_nrm hp _) (trim_nrm hp _) (pmul_ne cv.pm hT.n3 cv.nr hT.ne cv.ne)
  have nf := ps_ne hp cv.nr cv.ne
  rw [ps_pmul] at k1
  rw [← ps_every hp, ← ps_every hp]
  unfold nought fPart
  constructor
  · rintro ⟨h1, h2⟩
    rw [h1, ps_nil] at k1
    rw [h2, ps_nil] at k2
    refine ⟨?_, k2.trans (by grind)⟩
    rcases PS.dom cv.pm (k1.trans (by grind)) with z | z
    · exact z
    · exact absurd z nf
  · rintro ⟨h1, h2⟩
    rw [h1] at k1
    rw [h2] at k2
    refine ⟨(ps_eq0 hp ok.n1).mp ?_, (ps_eq0 hp ok.n2).mp ?_⟩
    · rcases PS.dom cv.pm (k1.symm.trans (by grind)) with z | z
      · exact absurd z hk
      · exact z
    · rcases PS.dom cv.pm k2.symm with z | z
      · exact absurd z hk
      · exact z
/-- L over the p-th power -/
theorem low_P (cv : CvOk c) (hT : LsOk c.1 T) : ps c.1 (fLow c T) * ps c.1 T.2.2 = ps c.1 T.1 * ps c.1 T.2.2 ^ c.1.toNat := by
  have := (fk cv hT).hB
  rw [ps_low]; grind
theorem high_P (cv : CvOk c) (hT : LsOk c.1 T) : ps c.1 (fHigh c T) * ps c.1 T.2.2 = ps c.1 T.2.1 * ps c.1 c.2 ^ ((c.1 + 1) / 2).toNat * ps c.1 T.2.2 ^ c.1.toNat := by
  have := (fk cv hT).hB
  rw [ps_high]; grind
/-- a function W told by top / P, side / (F P) with other p-th powers below: its L and H -/
theorem low_of (cv : CvOk c) (hW : LsOk c.1 U) {P G : PZ c.1} (h : ps c.1 U.1 * P = G * ps c.1 U.2.2) : ps c.1 (fLow c U) * P = G * ps c.1 U.2.2 ^ c.1.toNat := by
  have := (fk cv hW).hB
  rw [ps_low]; grind
theorem high_of (cv : CvOk c) (hW : LsOk c.1 U) {P G : PZ c.1} (h : ps c.1 U.2.1 * (ps c.1 c.2 ^ ((c.1 + 1) / 2).toNat * P) = G * ps c.1 U.2.2) : ps c.1 (fHigh c U) * P = G * ps c.1 U.2.2 ^ c.1.toNat := by
  have := (fk cv hW).hB
  rw [ps_high]; grind
/-- the last part of a slope is nought -/
theorem slope_last (cv : CvOk c) (hT : LsOk c.1 T) : nought (fLast c (fSlope c T)) := by
  have hpg := cv.pm.ge
  have hU := slope_ls cv hT
  obtain ⟨e1, e2⟩ := slope_eq cv hT
  have f1 := low_of cv hU e1
  have f2 := high_of cv hU e2
  have nb := (fk cv hT).nb
  have hi : c.1.toNat - 1 < c.1.toNat := by omega
  have key : ∀ (u v : PZ c.1), u * ps c.1 T.2.2 ^ c.1.toNat = PS.Der v * ps c.1 (fSlope c T).2.2 ^ c.1.toNat → PS.Ev c.1.toNat (c.1.toNat - 1) u = 0 := fun u v h => by
    rw [PS.pow_fr cv.pm, PS.pow_fr cv.pm] at h
    have h2 := PS.Ev_fr hi u (ps c.1 T.2.2)
    rw [h, PS.Ev_fr hi, PS.Ev_Der cv.pm] at h2
    rcases PS.dom cv.pm (h2.symm.trans (by grind)) with z | z
    · exact z
    · exact absurd z nb
  have : fLast c (fSlope c T) = fPart c (fSlope c T) ((c.1.toNat - 1 : Nat) : Int) := by
    unfold fLast
    congr 1
    omega
  rw [this, last_iff cv hU]
  exact ⟨key _ _ f1, key _ _ f2⟩
theorem src_nrm (cv : CvOk c) (hT : LsOk c.1 T) : Nrm c.1 (pmul c.1 (pSrc c.1 (fLow c T)) (ppow c.1 c.2 ((c.1 + 1) / 2).toNat)) ∧ Nrm c.1 (pSrc c.1 (fHigh c T)) ∧ Nrm c.1 (pmul c.1 (pStretch c.1 T.2.2) (ppow c.1 c.2 ((c.1 + 1) / 2).toNat)) ∧ pmul c.1 (pStretch c.1 T.2.2) (ppow c.1 c.2 ((c.1 + 1) / 2).toNat) ≠ [] := by
  have hpg := cv.pm.ge
  exact ⟨trim_nrm cv.pos _, trim_nrm cv.pos _, trim_nrm cv.pos _, pmul_ne cv.pm (pStretch_nrm cv.pos hT.n3) (ppow_nrm (by omega) _) (pStretch_ne cv.pos hT.ne) (ppow_ne cv.pm cv.nr cv.ne _)⟩
theorem src_ls (cv : CvOk c) (hT : LsOk c.1 T) : LsOk c.1 (fSrc c T) := by
  obtain ⟨h1, h2, h3, h4⟩ := src_nrm cv hT
  exact (least_ok cv.pm h1 h2 h3 h4).1
/-- the source, in the other form -/
theorem src_eq (cv : CvOk c) (hT : LsOk c.1 T) (h : nought (fLast c T)) : ps c.1 (fSrc c T).1 * ps c.1 T.2.2 ^ c.1.toNat = PS.J c.1 (ps c.1 (fLow c T)) * ps c.1 (fSrc c T).2.2 ∧
    ps c.1 (fSrc c T).2.1 * (ps c.1 c.2 ^ ((c.1 + 1) / 2).toNat * ps c.1 T.2.2 ^ c.1.toNat) = PS.J c.1 (ps c.1 (fHigh c T)) * ps c.1 (fSrc c T).2.2 := by
  obtain ⟨h1, h2, h3, h4⟩ := src_nrm cv hT
  have hz := last_zero cv hT h
  have k := fk cv hT
  obtain ⟨l1, l2⟩ := least_cross cv.pm h1 h2 h3 h4
  rw [show leastT c.1 (pmul c.1 (pSrc c.1 (fLow c T)) (ppow c.1 c.2 ((c.1 + 1) / 2).toNat)) (pSrc c.1 (fHigh c T)) (pmul c.1 (pStretch c.1 T.2.2) (ppow c.1 c.2 ((c.1 + 1) / 2).toNat)) = fSrc c T from rfl] at l1 l2
  generalize fSrc c T = W at l1 l2 ⊢
  rw [ps_pmul, ps_pmul, ps_src cv.pm fun k hk => (hz k hk).1, ps_ppow, ps_stretch cv.pos, ← PS.pow_fr cv.pm] at l1
  rw [ps_pmul, ps_src cv.pm fun k hk => (hz k hk).2, ps_ppow, ps_stretch cv.pos, ← PS.pow_fr cv.pm] at l2
  refine ⟨PS.cancel cv.pm k.nF ?_, ?_⟩
  · grind
  · rw [← l2]; grind
theorem last_ev (cv : CvOk c) (hT : LsOk c.1 T) (h : nought (fLast c T)) : PS.Ev c.1.toNat (c.1.toNat - 1) (ps c.1 (fLow c T)) = 0 ∧ PS.Ev c.1.toNat (c.1.toNat - 1) (ps c.1 (fHigh c T)) = 0 := by
  have hpg := cv.pm.ge
  have : fLast c T = fPart c T ((c.1.toNat - 1 : Nat) : Int) := by
    unfold fLast
    congr 1
    omega
  rw [this, last_iff cv hT] at h
  exact h
/-- the slope of the source -/
theorem src_slope (cv : CvOk c) (hT : LsOk c.1 T) (h : nought (fLast c T)) : fSlope c (fSrc c T) = T := by
  have hV := src_ls cv hT
  have hW := slope_ls cv hV
  obtain ⟨e1, e2⟩ := src_eq cv hT h
  obtain ⟨g1, g2⟩ := slope_eq cv hV
  obtain ⟨v1, v2⟩ := last_ev cv hT h
  have kT := fk cv hT
  have kV := fk cv hV
  have f1 := congrArg PS.Der (low_of cv hV e1)
  have f2 := congrArg PS.Der (high_of cv hV e2)
  rw [PS.Der_mul, PS.Der_mul, PS.Der_pow cv.pm, PS.Der_pow cv.pm, PS.Der_J cv.pm _ v1] at f1
  rw [PS.Der_mul, PS.Der_mul, PS.Der_pow cv.pm, PS.Der_pow cv.pm, PS.Der_J cv.pm _ v2] at f2
  have nP := pow_ne cv.pm kV.nb c.1.toNat
  have nQ := pow_ne cv.pm kT.nb c.1.toNat
  have w1 := low_P cv hT
  have w2 := high_P cv hT
  refine least_uniq cv.pm hW hT (PS.cancel cv.pm nP (PS.cancel cv.pm nQ ?_)) (PS.cancel cv.pm nP (PS.cancel cv.pm nQ (PS.cancel cv.pm kT.nF ?_)))
  · generalize ps c.1 T.2.2 ^ c.1.toNat = P at *
    generalize ps c.1 (fSrc c T).2.2 ^ c.1.toNat = Q at *
    generalize PS.Der (ps c.1 (fLow c (fSrc c T))) = dL at *
    generalize ps c.1 (fLow c T) = L at *
    have : dL * P = L * Q := by grind
    grind
  · generalize ps c.1 T.2.2 ^ c.1.toNat = P at *
    generalize ps c.1 (fSrc c T).2.2 ^ c.1.toNat = Q at *
    generalize PS.Der (ps c.1 (fHigh c (fSrc c T))) = dL at *
    generalize ps c.1 (fHigh c T) = L at *
    generalize ps c.1 c.2 ^ ((c.1 + 1) / 2).toNat = F at *
    have : dL * P = L * Q := by grind
    grind
/-- the source has no first part -/
theorem src_first (cv : CvOk c) (hT : LsOk c.1 T) (h : nought (fLast c T)) : nought (fPart c (fSrc c T) 0) := by
  have hV := src_ls cv hT
  obtain ⟨e1, e2⟩ := src_eq cv hT h
  have hpg := cv.pm.ge
  have nb := (fk cv hT).nb
  have key : ∀ (u v : PZ c.1), u * ps c.1 T.2.2 ^ c.1.toNat = PS.J c.1 v * ps c.1 (fSrc c T).2.2 ^ c.1.toNat → PS.Ev c.1.toNat 0 u = 0 := fun u v h => by
    rw [PS.pow_fr cv.pm, PS.pow_fr cv.pm] at h
    have h2 := PS.Ev_fr (q := c.1.toNat) (i := 0) (by omega) u (ps c.1 T.2.2)
    rw [h, PS.Ev_fr (by omega), PS.Ev_J cv.pm] at h2
    rcases PS.dom cv.pm (h2.symm.trans (by grind)) with z | z
    · exact z
    · exact absurd z nb
  have := (last_iff cv hV 0).mpr ⟨key _ _ (low_of cv hV e1), key _ _ (high_of cv hV e2)⟩
  exact this
/-! ### powers of functions -/
/-- T is (u + v y) / d -/
structure Is (c : Cur) (T : Tri) (u v d : PZ c.1) : Prop where
  ls : LsOk c.1 T
  nd : d ≠ 0
  e1 : ps c.1 T.1 * d = u * ps c.1 T.2.2
  e2 : ps c.1 T.2.1 * d = v * ps c.1 T.2.2
theorem least_is (cv : CvOk c) {t s b : List Int} (nt : Nrm c.1 t) (ns : Nrm c.1 s) (nb : Nrm c.1 b) (hb : b ≠ []) : Is c (leastT c.1 t s b) (ps c.1 t) (ps c.1 s) (ps c.1 b) := by
  obtain ⟨l1, l2⟩ := least_cross cv.pm nt ns nb hb
  exact ⟨(least_ok cv.pm nt ns nb hb).1, ps_ne cv.pos nb hb, l1, l2⟩
theorem is_self (cv : CvOk c) (hT : LsOk c.1 T) : Is c T (ps c.1 T.1) (ps c.1 T.2.1) (ps c.1 T.2.2) := ⟨hT, ps_ne cv.pos hT.n3 hT.ne, rfl, rfl⟩
/-- another fraction of the same -/
theorem is_via (cv : CvOk c) {u v d u' v' d' : PZ c.1} (h : Is c T u v d) (n : d' ≠ 0) (h1 : u * d' = u' * d) (h2 : v * d' = v' * d) : Is c T u' v' d' :=
  ⟨h.ls, n, PS.cancel cv.pm h.nd (by have := h.e1; grind), PS.cancel cv.pm h.nd (by have := h.e2; grind)⟩
theorem is_uniq (cv : CvOk c) {u v d : PZ c.1} (h : Is c T u v d) (k : Is c U u v d) : T = U :=
  least_uniq cv.pm h.ls k.ls (PS.cancel cv.pm h.nd (by have := h.e1; have := k.e1; grind)) (PS.cancel cv.pm h.nd (by have := h.e2; have := k.e2; grind))
theorem ne_mul (cv : CvOk c) {a b : PZ c.1} (h : a ≠ 0) (k : b ≠ 0) : a * b ≠ 0 := fun z => by
  rcases PS.dom cv.pm z with z | z
  · exact h z
  · exact k z
theorem times_is (cv : CvOk c) {u v d u' v' d' : PZ c.1} (h : Is c T u v d) (k : Is c U u' v' d') : Is c (fTimes c T U) (u * u' + v * v' * ps c.1 c.2) (u * v' + v * u') (d * d') := by
  have hb := ne_mul cv (ps_ne cv.pos h.ls.n3 h.ls.ne) (ps_ne cv.pos k.ls.n3 k.ls.ne)
  have m := least_is cv (t := padd c.1 (pmul c.1 T.1 U.1) (pmul c.1 (pmul c.1 T.2.1 U.2.1) c.2)) (s := padd c.1 (pmul c.1 T.1 U.2.1) (pmul c.1 T.2.1 U.1)) (b := pmul c.1 T.2.2 U.2.2) (trim_nrm cv.pos _) (trim_nrm cv.pos _) (trim_nrm cv.pos _) (pmul_ne cv.pm h.ls.n3 k.ls.n3 h.ls.ne k.ls.ne)
  simp only [ps_padd, ps_pmul] at m
  have := h.e1; have := h.e2; have := k.e1; have := k.e2
  exact is_via cv m (ne_mul cv h.nd k.nd) (by grind) (by grind)
theorem minus_is (cv : CvOk c) {u v d u' v' d' : PZ c.1} (h : Is c T u v d) (k : Is c U u' v' d') : Is c (fMinus c T U) (u * d' - u' * d) (v * d' - v' * d) (d * d') := by
  have o := least_is cv (t := pneg c.1 U.1) (s := pneg c.1 U.2.1) (b := U.2.2) (trim_nrm cv.pos _) (trim_nrm cv.pos _) k.ls.n3 k.ls.ne
  rw [show leastT c.1 (pneg c.1 U.1) (pneg c.1 U.2.1) U.2.2 = fOpp c U from rfl] at o
  simp only [ps_pneg] at o
  have o2 : Is c (fOpp c U) (-u') (-v') d' := by
    have := k.e1; have := k.e2
    exact is_via cv o k.nd (by grind) (by grind)
  have m := least_is cv (t := padd c.1 (pmul c.1 T.1 (fOpp c U).2.2) (pmul c.1 (fOpp c U).1 T.2.2)) (s := padd c.1 (pmul c.1 T.2.1 (fOpp c U).2.2) (pmul c.1 (fOpp c U).2.1 T.2.2)) (b := pmul c.1 T.2.2 (fOpp c U).2.2) (trim_nrm cv.pos _) (trim_nrm cv.pos _) (trim_nrm cv.pos _) (pmul_ne cv.pm h.ls.n3 o2.ls.n3 h.ls.ne o2.ls.ne)
  simp only [ps_padd, ps_pmul] at m
  have := h.e1; have := h.e2; have := o2.e1; have := o2.e2
  exact is_via cv m (ne_mul cv h.nd k.nd) (by grind) (by grind)
end
end Cw
set_option maxHeartbeats 8000000
namespace Cw
open Lean.Grind
section
variable {p : Int}
theorem one_is {c : Cur} (cv : CvOk c) : Is c (fOne c) 1 0 1 := by
  have h := least_is cv (one_nrm cv.pm) nrm_nil (one_nrm cv.pm) (by simp)
  rw [ps_one, ps_nil] at h
  exact h
theorem raised3 (c : Cur) (T : Tri) : fRaised c T 3 = fTimes c (fTimes c (fOne c) T) (fTimes c T T) := rfl
theorem raised5 (c : Cur) (T : Tri) : fRaised c T 5 = fTimes c (fTimes c (fOne c) T) (fTimes c (fTimes c T T) (fTimes c T T)) := rfl
theorem raised7 (c : Cur) (T : Tri) : fRaised c T 7 = fTimes c (fTimes c (fTimes c (fOne c) T) (fTimes c T T)) (fTimes c (fTimes c T T) (fTimes c T T)) := rfl
theorem raised11 (c : Cur) (T : Tri) : fRaised c T 11 = fTimes c (fTimes c (fTimes c (fOne c) T) (fTimes c T T)) (fTimes c (fTimes c (fTimes c T T) (fTimes c T T)) (fTimes c (fTimes c T T) (fTimes c T T))) := rfl
theorem raised13 (c : Cur) (T : Tri) : fRaised c T 13 = fTimes c (fTimes c (fTimes c (fOne c) T) (fTimes c (fTimes c T T) (fTimes c T T))) (fTimes c (fTimes c (fTimes c T T) (fTimes c T T)) (fTimes c (fTimes c T T) (fTimes c T T))) := rfl
theorem one_times {c : Cur} (cv : CvOk c) {T : Tri} {u v d : PZ c.1} (h : Is c T u v d) : Is c (fTimes c (fOne c) T) u v d := is_via cv (times_is cv (one_is cv) h) h.nd (by grind) (by grind)
theorem two_is {c : Cur} (cv : CvOk c) {T : Tri} {u v d : PZ c.1} (h : Is c T u v d) : Is c (fTimes c T T) (u ^ 2 + v ^ 2 * ps c.1 c.2) ((1 + 1) * u * v) (d ^ 2) := is_via cv (times_is cv h h) (pow_ne cv.pm h.nd 2) (by grind) (by grind)
theorem times_is' {c : Cur} (cv : CvOk c) {T U : Tri} {u v d u' v' d' x y z : PZ c.1} (h : Is c T u v d) (k : Is c U u' v' d') (hx : x = u * u' + v * v' * ps c.1 c.2) (hy : y = u * v' + v * u') (hz : z = d * d') : Is c (fTimes c T U) x y z := by
  subst hx hy hz
  exact times_is cv h k
theorem qx3 (u v f : PS (ZM 3)) : u ^ 3 = u * (u * u + v * v * f) + v * (u * v + v * u) * f := by grind
theorem qy3 (u v f : PS (ZM 3)) : v ^ 3 * f ^ 1 = u * (u * v + v * u) + v * (u * u + v * v * f) := by grind
theorem qz3 (d : PS (ZM 3)) : d ^ 3 = d * (d * d) := by grind
theorem ris3 {f : List Int} (cv : CvOk (3, f)) {T : Tri} {u v d : PZ 3} (h : Is (3, f) T u v d) : Is (3, f) (fRaised (3, f) T 3) (u ^ 3) (v ^ 3 * ps 3 f ^ 1) (d ^ 3) := by
  have h1 := one_times cv h
  have h2 := times_is cv h h
  have h4 := times_is cv h2 h2
  have h8 := times_is cv h4 h4
  rw [raised3]
  exact times_is' cv h1 h2 (qx3 u v (ps 3 f)) (qy3 u v (ps 3 f)) (qz3 d)
theorem qx5 (u v f : PS (ZM 5)) : u ^ 5 = u * ((u * u + v * v * f) * (u * u + v * v * f) + (u * v + v * u) * (u * v + v * u) * f) + v * ((u * u + v * v * f) * (u * v + v * u) + (u * v + v * u) * (u * u + v * v * f)) * f := by grind
theorem qy5 (u v f : PS (ZM 5)) : v ^ 5 * f ^ 2 = u * ((u * u + v * v * f) * (u * v + v * u) + (u * v + v * u) * (u * u + v * v * f)) + v * ((u * u + v * v * f) * (u * u + v * v * f) + (u * v + v * u) * (u * v + v * u) * f) := by grind
theorem qz5 (d : PS (ZM 5)) : d ^ 5 = d * ((d * d) * (d * d)) := by grind
theorem ris5 {f : List Int} (cv : CvOk (5, f)) {T : Tri} {u v d : PZ 5} (h : Is (5, f) T u v d) : Is (5, f) (fRaised (5, f) T 5) (u ^ 5) (v ^ 5 * ps 5 f ^ 2) (d ^ 5) := by
  have h1 := one_times cv h
  have h2 := times_is cv h h
  have h4 := times_is cv h2 h2
  have h8 := times_is cv h4 h4
  rw [raised5]
  exact times_is' cv h1 h4 (qx5 u v (ps 5 f)) (qy5 u v (ps 5 f)) (qz5 d)
theorem qx7 (u v f : PS (ZM 7)) : u ^ 7 = (u * (u * u + v * v * f) + v * (u * v + v * u) * f) * ((u * u + v * v * f) * (u * u + v * v * f) + (u * v + v * u) * (u * v + v * u) * f) + (u * (u * v + v * u) + v * (u * u + v * v * f)) * ((u * u + v * v * f) * (u * v + v * u) + (u * v + v * u) * (u * u + v * v * f)) * f := by grind
theorem qy7 (u v f : PS (ZM 7)) : v ^ 7 * f ^ 3 = (u * (u * u + v * v * f) + v * (u * v + v * u) * f) * ((u * u + v * v * f) * (u * v + v * u) + (u * v + v * u) * (u * u + v * v * f)) + (u * (u * v + v * u) + v * (u * u + v * v * f)) * ((u * u + v * v * f) * (u * u + v * v * f) + (u * v + v * u) * (u * v + v * u) * f) := by grind
theorem qz7 (d : PS (ZM 7)) : d ^ 7 = (d * (d * d)) * ((d * d) * (d * d)) := by grind
theorem ris7 {f : List Int} (cv : CvOk (7, f)) {T : Tri} {u v d : PZ 7} (h : Is (7, f) T u v d) : Is (7, f) (fRaised (7, f) T 7) (u ^ 7) (v ^ 7 * ps 7 f ^ 3) (d ^ 7) := by
  have h1 := one_times cv h
  have h2 := times_is cv h h
  have h4 := times_is cv h2 h2
  have h8 := times_is cv h4 h4
  rw [raised7]
  exact times_is' cv (times_is cv h1 h2) h4 (qx7 u v (ps 7 f)) (qy7 u v (ps 7 f)) (qz7 d)
theorem qx11 (u v f : PS (ZM 11)) : u ^ 11 = (u * (u * u + v * v * f) + v * (u * v + v * u) * f) * (((u * u + v * v * f) * (u * u + v * v * f) + (u * v + v * u) * (u * v + v * u) * f) * ((u * u + v * v * f) * (u * u + v * v * f) + (u * v + v * u) * (u * v + v * u) * f) + ((u * u + v * v * f) * (u * v + v * u) + (u * v + v * u) * (u * u + v * v * f)) * ((u * u + v * v * f) * (u * v + v * u) + (u * v + v * u) * (u * u + v * v * f)) * f) + (u * (u * v + v * u) + v * (u * u + v * v * f)) * (((u * u + v * v * f) * (u * u + v * v * f) + (u * v + v * u) * (u * v + v * u) * f) * ((u * u + v * v * f) * (u * v + v * u) + (u * v + v * u) * (u * u + v * v * f)) + ((u * u + v * v * f) * (u * v + v * u) + (u * v + v * u) * (u * u + v * v * f)) * ((u * u + v * v * f) * (u * u + v * v * f) + (u * v + v * u) * (u * v + v * u) * f)) * f := by grind
theorem qy11 (u v f : PS (ZM 11)) : v ^ 11 * f ^ 5 = (u * (u * u + v * v * f) + v * (u * v + v * u) * f) * (((u * u + v * v * f) * (u * u + v * v * f) + (u * v + v * u) * (u * v + v * u) * f) * ((u * u + v * v * f) * (u * v + v * u) + (u * v + v * u) * (u * u + v * v * f)) + ((u * u + v * v * f) * (u * v + v * u) + (u * v + v * u) * (u * u + v * v * f)) * ((u * u + v * v * f) * (u * u + v * v * f) + (u * v + v * u) * (u * v + v * u) * f)) + (u * (u * v + v * u) + v * (u * u + v * v * f)) * (((u * u + v * v * f) * (u * u + v * v * f) + (u * v + v * u) * (u * v + v * u) * f) * ((u * u + v * v * f) * (u * u + v * v * f) + (u * v + v * u) * (u * v + v * u) * f) + ((u * u + v * v * f) * (u * v + v * u) + (u * v + v * u) * (u * u + v * v * f)) * ((u * u + v * v * f) * (u * v + v * u) + (u * v + v * u) * (u * u + v * v * f)) * f) := by grind
theorem qz11 (d : PS (ZM 11)) : d ^ 11 = (d * (d * d)) * (((d * d) * (d * d)) * ((d * d) * (d * d))) := by grind
theorem ris11 {f : List Int} (cv : CvOk (11, f)) {T : Tri} {u v d : PZ 11} (h : Is (11, f) T u v d) : Is (11, f) (fRaised (11, f) T 11) (u ^ 11) (v ^ 11 * ps 11 f ^ 5) (d ^ 11) := by
  have h1 := one_times cv h
  have h2 := times_is cv h h
  have h4 := times_is cv h2 h2
  have h8 := times_is cv h4 h4
  rw [raised11]
  exact times_is' cv (times_is cv h1 h2) h8 (qx11 u v (ps 11 f)) (qy11 u v (ps 11 f)) (qz11 d)
theorem qx13 (u v f : PS (ZM 13)) : u ^ 13 = (u * ((u * u + v * v * f) * (u * u + v * v * f) + (u * v + v * u) * (u * v + v * u) * f) + v * ((u * u + v * v * f) * (u * v + v * u) + (u * v + v * u) * (u * u + v * v * f)) * f) * (((u * u + v * v * f) * (u * u + v * v * f) + (u * v + v * u) * (u * v + v * u) * f) * ((u * u + v * v * f) * (u * u + v * v * f) + (u * v + v * u) * (u * v + v * u) * f) + ((u * u + v * v * f) * (u * v + v * u) + (u * v + v * u) * (u * u + v * v * f)) * ((u * u + v * v * f) * (u * v + v * u) + (u * v + v * u) * (u * u + v * v * f)) * f) + (u * ((u * u + v * v * f) * (u * v + v * u) + (u * v + v * u) * (u * u + v * v * f)) + v * ((u * u + v * v * f) * (u * u + v * v * f) + (u * v + v * u) * (u * v + v * u) * f)) * (((u * u + v * v * f) * (u * u + v * v * f) + (u * v + v * u) * (u * v + v * u) * f) * ((u * u + v * v * f) * (u * v + v * u) + (u * v + v * u) * (u * u + v * v * f)) + ((u * u + v * v * f) * (u * v + v * u) + (u * v + v * u) * (u * u + v * v * f)) * ((u * u + v * v * f) * (u * u + v * v * f) + (u * v + v * u) * (u * v + v * u) * f)) * f := by grind
theorem qy13 (u v f : PS (ZM 13)) : v ^ 13 * f ^ 6 = (u * ((u * u + v * v * f) * (u * u + v * v * f) + (u * v + v * u) * (u * v + v * u) * f) + v * ((u * u + v * v * f) * (u * v + v * u) + (u * v + v * u) * (u * u + v * v * f)) * f) * (((u * u + v * v * f) * (u * u + v * v * f) + (u * v + v * u) * (u * v + v * u) * f) * ((u * u + v * v * f) * (u * v + v * u) + (u * v + v * u) * (u * u + v * v * f)) + ((u * u + v * v * f) * (u * v + v * u) + (u * v + v * u) * (u * u + v * v * f)) * ((u * u + v * v * f) * (u * u + v * v * f) + (u * v + v * u) * (u * v + v * u) * f)) + (u * ((u * u + v * v * f) * (u * v + v * u) + (u * v + v * u) * (u * u + v * v * f)) + v * ((u * u + v * v * f) * (u * u + v * v * f) + (u * v + v * u) * (u * v + v * u) * f)) * (((u * u + v * v * f) * (u * u + v * v * f) + (u * v + v * u) * (u * v + v * u) * f) * ((u * u + v * v * f) * (u * u + v * v * f) + (u * v + v * u) * (u * v + v * u) * f) + ((u * u + v * v * f) * (u * v + v * u) + (u * v + v * u) * (u * u + v * v * f)) * ((u * u + v * v * f) * (u * v + v * u) + (u * v + v * u) * (u * u + v * v * f)) * f) := by grind
theorem qz13 (d : PS (ZM 13)) : d ^ 13 = (d * ((d * d) * (d * d))) * (((d * d) * (d * d)) * ((d * d) * (d * d))) := by grind
theorem ris13 {f : List Int} (cv : CvOk (13, f)) {T : Tri} {u v d : PZ 13} (h : Is (13, f) T u v d) : Is (13, f) (fRaised (13, f) T 13) (u ^ 13) (v ^ 13 * ps 13 f ^ 6) (d ^ 13) := by
  have h1 := one_times cv h
  have h2 := times_is cv h h
  have h4 := times_is cv h2 h2
  have h8 := times_is cv h4 h4
  rw [raised13]
  exact times_is' cv (times_is cv h1 h4) h8 (qx13 u v (ps 13 f)) (qy13 u v (ps 13 f)) (qz13 d)
theorem raised_is {c : Cur} (cv : CvOk c) {T : Tri} {u v d : PZ c.1} (h : Is c T u v d) : Is c (fRaised c T c.1) (u ^ c.1.toNat) (v ^ c.1.toNat * ps c.1 c.2 ^ ((c.1 - 1) / 2).toNat) (d ^ c.1.toNat) := by
  obtain ⟨p, f⟩ := c
  have pm := cv.pm
  simp only at pm
  rcases pm with rfl | rfl | rfl | rfl | rfl
  · exact ris3 cv h
  · exact ris5 cv h
  · exact ris7 cv h
  · exact ris11 cv h
  · exact ris13 cv h
theorem ax_a {x P Q J w D : PZ p} (g : x * Q = J * w) (j : J * P = D * Q) : x * P * Q = D * w * Q := by
  have : x * P * Q = (x * Q) * P := by grind
  rw [this, g]
  have : J * w * P = (J * P) * w := by grind
  rw [this, j]; grind
theorem ax_f {x P Q J w D F : PZ p} (g : x * (F * Q) = J * w) (j : J * P = D * Q) : x * (F * P) * Q = D * w * Q := by
  have : x * (F * P) * Q = (x * (F * Q)) * P := by grind
  rw [this, g]
  have : J * w * P = (J * P) * w := by grind
  rw [this, j]; grind
theorem ax_b {m b P R t A mw L : PZ p} (r : m * (b * (P * R)) = (t * (P * R) - A * R * b) * mw) (w : L * b = t * P) : m * P * b * R = (L - A) * mw * b * R := by
  have : m * P * b * R = m * (b * (P * R)) := by grind
  rw [this, r]
  have : t * (P * R) = (t * P) * R := by grind
  rw [this, ← w]; grind
theorem ax_c {m b P R s B g mw H F : PZ p} (r : m * (b * (P * R)) = (s * (P * R) - B * g * b) * mw) (w : H * b = s * F * P) (hg : g * F = R) : m * (F * P) * b * R = (H - B) * mw * b * R := by
  have : m * (F * P) * b * R = F * (m * (b * (P * R))) := by grind
  rw [this, r]
  have : F * ((s * (P * R) - B * g * b) * mw) = ((s * F * P) * R - B * (g * F) * b) * mw := by grind
  rw [this, ← w, hg]; grind
theorem ax_d {v m P D vw mw : PZ p} (a : v * P = D * vw) (b : m * P = D * mw) : v * mw * P = m * vw * P := by
  have : v * mw * P = (v * P) * mw := by grind
  rw [this, a]
  have : m * vw * P = (m * P) * vw := by grind
  rw [this, b]; grind
theorem ax_e {v m P F D vw mw : PZ p} (a : v * (F * P) = D * vw) (b : m * (F * P) = D * mw) : v * mw * P * F = m * vw * P * F := by
  have : v * mw * P * F = (v * (F * P)) * mw := by grind
  rw [this, a]
  have : m * vw * P * F = (m * (F * P)) * vw := by grind
  rw [this, b]; grind
/-- of a slope the source is the function less the p-th power of its first part -/
theorem slope_src {c : Cur} (cv : CvOk c) {T : Tri} (hT : LsOk c.1 T) : fSrc c (fSlope c T) = fMinus c T (fRaised c (fPart c T 0) c.1) := by
  have hpg := cv.pm.ge
  have hU := slope_ls cv hT
  have hn := slope_last cv hT
  have kT := fk cv hT
  have kU := fk cv hU
  obtain ⟨e1, e2⟩ := slope_eq cv hT
  obtain ⟨g1, g2⟩ := src_eq cv hU hn
  obtain ⟨v1, v2⟩ := last_ev cv hU hn
  have w1 := low_P cv hT
  have w2 := high_P cv hT
  have f1 := low_of cv hU e1
  have f2 := high_of cv hU e2
  have hV := src_ls cv hU
  -- two sources of one slope
  have key : ∀ (x y : PZ c.1), x * ps c.1 T.2.2 ^ c.1.toNat = PS.Der y * ps c.1 (fSlope c T).2.2 ^ c.1.toNat → PS.Ev c.1.toNat (c.1.toNat - 1) x = 0 → PS.J c.1 x * ps c.1 T.2.2 ^ c.1.toNat = (y - PS.Fr c.1.toNat (PS.Ev c.1.toNat 0 y)) * ps c.1 (fSlope c T).2.2 ^ c.1.toNat := fun x y h hx => by
    refine anti_uniq cv.pm ?_ ?_
    · rw [PS.Der_mul, PS.Der_mul, PS.Der_pow cv.pm, PS.Der_pow cv.pm, PS.Der_J cv.pm _ hx]
      have : PS.Der (y - PS.Fr c.1.toNat (PS.Ev c.1.toNat 0 y)) = PS.Der y := by
        have e := PS.Der_add (y - PS.Fr c.1.toNat (PS.Ev c.1.toNat 0 y)) (PS.Fr c.1.toNat (PS.Ev c.1.toNat 0 y))
        rw [PS.Der_fr cv.pm, show y - PS.Fr c.1.toNat (PS.Ev c.1.toNat 0 y) + PS.Fr c.1.toNat (PS.Ev c.1.toNat 0 y) = y by grind] at e
        rw [e]; grind
      rw [this]
      grind
    · rw [PS.pow_fr cv.pm, PS.pow_fr cv.pm, PS.Ev_fr (by omega), PS.Ev_fr (by omega), PS.Ev_J cv.pm, PS.Ev_sub]
      have : PS.Ev c.1.toNat 0 (PS.Fr c.1.toNat (PS.Ev c.1.toNat 0 y)) = PS.Ev c.1.toNat 0 y := by
        have e := PS.Ev_fr (q := c.1.toNat) (i := 0) (by omega) (1 : PZ c.1) (PS.Ev c.1.toNat 0 y)
        rw [show (1 : PZ c.1) * PS.Fr c.1.toNat (PS.Ev c.1.toNat 0 y) = PS.Fr c.1.toNat (PS.Ev c.1.toNat 0 y) by grind] at e
        rw [e]
        have : PS.Ev c.1.toNat 0 (1 : PZ c.1) = 1 := PS.ext fun k => by
          show (1 : PZ c.1) (0 + c.1.toNat * k) = _
          rw [PS.one_at, PS.one_at]
          cases k with
          | zero => simp
          | succ k => rw [if_neg (by rw [Nat.mul_succ]; omega), if_neg (by omega)]
        rw [this]; grind
      rw [this]; grind
  have j1 := key _ _ f1 v1
  have j2 := key _ _ f2 v2
  -- the power of the first part
  have hz := least_is cv (t := pmul c.1 (pEvery c.1 (fLow c T) ((0 : Nat) : Int)) c.2) (s := pEvery c.1 (fHigh c T) ((0 : Nat) : Int)) (b := pmul c.1 T.2.2 c.2) (trim_nrm cv.pos _) (trim_nrm cv.pos _) (trim_nrm cv.pos _) (pmul_ne cv.pm hT.n3 cv.nr hT.ne cv.ne)
  rw [ps_pmul, ps_pmul, ps_every cv.pos, ps_every cv.pos] at hz
  have hr := minus_is cv (is_self cv hT) (raised_is cv hz)
  rw [PS.mul_pow', PS.mul_pow', PS.pow_fr cv.pm (PS.Ev c.1.toNat 0 (ps c.1 (fLow c T))), PS.pow_fr cv.pm (PS.Ev c.1.toNat 0 (ps c.1 (fHigh c T)))] at hr
  have hg : ps c.1 c.2 ^ ((c.1 - 1) / 2).toNat * ps c.1 c.2 ^ ((c.1 + 1) / 2).toNat = ps c.1 c.2 ^ c.1.toNat := by
    rw [pow_dup]
    congr 1
    rcases cv.pm with h | h | h | h | h <;> rw [h] <;> rfl
  have hM := hr.ls
  have nP := pow_ne cv.pm kT.nb c.1.toNat
  have nQ := pow_ne cv.pm kU.nb c.1.toNat
  have nff := pow_ne cv.pm kT.nf c.1.toNat
  have r1 := hr.e1
  have r2 := hr.e2
  have nb := kT.nb
  have nF := kT.nF
  show fSrc c (fSlope c T) = fMinus c T (fRaised c (leastT c.1 (pmul c.1 (pEvery c.1 (fLow c T) ((0 : Nat) : Int)) c.2) (pEvery c.1 (fHigh c T) ((0 : Nat) : Int)) (pmul c.1 T.2.2 c.2)) c.1)
  generalize fMinus c T (fRaised c (leastT c.1 (pmul c.1 (pEvery c.1 (fLow c T) ((0 : Nat) : Int)) c.2) (pEvery c.1 (fHigh c T) ((0 : Nat) : Int)) (pmul c.1 T.2.2 c.2)) c.1) = M at *
  generalize PS.Fr c.1.toNat (PS.Ev c.1.toNat 0 (ps c.1 (fLow c T))) = A at *
  generalize PS.Fr c.1.toNat (PS.Ev c.1.toNat 0 (ps c.1 (fHigh c T))) = B at *
  generalize PS.J c.1 (ps c.1 (fLow c (fSlope c T))) = J1 at *
  generalize PS.J c.1 (ps c.1 (fHigh c (fSlope c T))) = J2 at *
  generalize ps c.1 (fLow c T) = L at *
  generalize ps c.1 (fHigh c T) = H at *
  generalize ps c.1 T.2.2 ^ c.1.toNat = P at *
  generalize ps c.1 (fSlope c T).2.2 ^ c.1.toNat = Q at *
  generalize ps c.1 c.2 ^ c.1.toNat = R at *
  generalize ps c.1 c.2 ^ ((c.1 + 1) / 2).toNat = F at *
  generalize ps c.1 c.2 ^ ((c.1 - 1) / 2).toNat = g at *
  generalize fSrc c (fSlope c T) = V at *
  have a1 : ps c.1 V.1 * P = (L - A) * ps c.1 V.2.2 := PS.cancel cv.pm nQ (ax_a g1 j1)
  have a2 : ps c.1 V.2.1 * (F * P) = (H - B) * ps c.1 V.2.2 := PS.cancel cv.pm nQ (ax_f g2 j2)
  have b1 : ps c.1 M.1 * P = (L - A) * ps c.1 M.2.2 := PS.cancel cv.pm nb (PS.cancel cv.pm nff (ax_b r1 w1))
  have b2 : ps c.1 M.2.1 * (F * P) = (H - B) * ps c.1 M.2.2 := PS.cancel cv.pm nb (PS.cancel cv.pm nff (ax_c r2 w2 hg))
  exact least_uniq cv.pm hV hM (PS.cancel cv.pm nP (ax_d a1 b1)) (PS.cancel cv.pm nP (PS.cancel cv.pm nF (ax_e a2 b2)))
end
end Cw
set_option maxHeartbeats 4000000
namespace Cw
open PySem PySem.Spec PyProof.Rows L2
section
variable {X : Cx}
theorem call_reprB : CallR X (.builtin "repr") (fun xs H Q => ∃ b : Bool, xs = [.bl b] ∧ Q (.str (if b then "True" else "False")) H) := by
  intro pins s σ H xs us Q I r h
  obtain ⟨b, rfl, q⟩ := h
  obtain ⟨u, rfl, ru⟩ := vals1 r
  cases (show u = Value.bool b from ru)
  exact PySem.P.repr_of_bool ⟨.str _, H, I.tok _, ⟨_, rfl⟩, q⟩
end
/-- a def of one parameter that may be called by keyword -/
structure CalK (P : Program) (w : World) (K : Fg) (mg : Str → Option Value) (base : Heap) (k : Nat) (x : Str) (a : Str) (sp : Sp) : Prop where
  ex : ∃ (f : Addr) (fd : FuncData), FnOk P w K mg base C8.CX0 k f fd [a] sp ∧ mg x = some (.ref f) ∧ PySem.W.keepIn K (.ref f) = true ∧ ∀ (s : Shared) (ws : List Value), ws.length = 1 → BindsTo s fd ⟨[], [a].zip ws⟩ ([a].zip ws)
def tCallKw (sp : Sp) (E : XK) (tk : TA) : TE := fun σ H Q => tk σ H fun zs H2 => sp zs H2 Q E
theorem pe_ck {X : Cx} {j k : Nat} {x a : Str} {sp : Sp} {p pos : Pos} {kws : List Keyword} {tk : TA} (c : CalK X.prog X.w X.K X.mg X.base k x a sp) (hr : Room j X.A) (hk : k ≤ j) (hg : Gl X x) (hkw : PK X kws tk) (hall : (backToKw pos (keywordEach kws X.env)).all (·.1.isSome) = true := by rfl) (hks : (backToKw pos (keywordEach kws X.env)).filterMap (·.1) = [a] := by rfl)
    (hdb : (x == ("__debug__" : Str)) = false := by decide) (hpl : ((backTo pos (starEach [] X.env)).any (·.1) || (backToKw pos (keywordEach kws X.env)).any (·.1.isNone)) = false := by rfl) : PE X (.Call (.Name x p) [] kws pos) (tCallKw sp C8.E0 tk) := by
  obtain ⟨f, fd, F, hm, kp, hb⟩ := c.ex
  refine ⟨fun pins s σ H Q I h => ?_⟩
  refine wpAny_Call_Name_kw (ld_glob I hg hm ?_ hdb)
  refine PySem.W.callWith_KW0 (h₀ := X.base) I.ok.mod.kin kp hall (thn (hkw.run pos pins s σ H _ I h) fun ws s2 ⟨zs, H2, I2, rz, q2⟩ => ⟨I2.kIn, ?_⟩) hpl
  rw [hks]
  have hl := F.len _ _ _ _ q2
  have hw : ws.length = 1 := by rw [← rz.length]; exact hl
  refine wpAny_call (codeAny_mono (F.run X.A X.stack s2 H2 ⟨[], [a].zip ws⟩ ws zs Q C8.E0 (hr.mono hk) I2.env0 (hb s2 ws hw) rz q2) fun r s' hq => ?_)
  cases r with
  | error e => exact C8.pass0 (X := X) (E := C8.E0) pins σ H2 s2 e s' I2 hq
  | ok fl =>
    cases fl with
    | ret u => exact I2.after hq
    | next => exact False.elim hq
    | brk => exact False.elim hq
    | cont => exact False.elim hq
section
variable {K : Fg} {G : Ctx} {te ta tb tc : TE} {tr : TA} {d e : D} {ds : List D}
theorem ev_ck {P : List D → D → Prop} {E : XK} (h : EvA K tr G ds) (p : P ds d) : EvD K (tCallKw (spD K P) E tr) G d := fun F0 H0 F H σ s Q q => h F0 H0 F H σ s _ fun vs F1 H1 t1 r1 =>
  ⟨F1, ds, d, t1.fh, r1, p, fun v F2 H2 t2 r2 => q v F2 H2 (t1.trans t2) r2⟩
theorem ev_neB {i j : Bool} (ha : EvD K ta G (.bl i)) (hb : EvD K tb G (.bl j)) : EvD K (tOp rNe ta tb) G (.bl (!decide (i = j))) := ev_op ha hb fun F H x y s hx hy Q q => by
  cases hx
  cases hy
  exact ⟨rfl, q _ F H (Step.refl s) (by show V.bl _ = V.bl _; congr 2; exact decide_eq_decide.mpr ⟨fun h => V.bl.inj h, fun h => by rw [h]⟩)⟩
theorem ev_neS {x : Str} (ha : EvD K ta G (.str x)) (hb : EvD K tb G (.str x)) : EvD K (tOp rNe ta tb) G (.bl false) := ev_op ha hb fun F H u v s hx hy Q q => by
  cases hx
  cases hy
  exact ⟨rfl, q _ F H (Step.refl s) (by show V.bl _ = V.bl _; simp)⟩
theorem ev_repr {b : Bool} (ha : EvD K ta G (.bl b)) : EvD K (tCB (fun xs H Q => ∃ b : Bool, xs = [V.bl b] ∧ Q (.str (if b then "True" else "False")) H) (tCons ta tNil)) G (.str (if b then "True" else "False")) := ev_cb (ea_cons ha ea_nil) fun F H vs s hx Q q => by
  obtain ⟨v, r, rfl, h1, h3⟩ := hx
  cases h1
  cases h3
  exact ⟨b, rfl, q _ F H (Step.refl s) rfl⟩
/-- is None -/
def isNon : D → Bool
  | .non => true
  | _ => false
theorem rep_non {F : Hp} {v : V} (r : Rep K F d v) : decide (v = .non) = isNon d := by
  cases d with
  | non => cases r; rfl
  | bl b => cases r; rfl
  | int i => cases r; rfl
  | str x => cases r; rfl
  | lst ds => obtain ⟨a, vs, rfl, _⟩ := r; rfl
  | tup ds => obtain ⟨a, vs, rfl, _⟩ := r; rfl
  | scr ns => obtain ⟨a, rfl, _⟩ := r; rfl
  | ins C ns ds => obtain ⟨a, dx, us, rfl, _⟩ := r; rfl
theorem ev_isN (ha : EvD K ta G d) : EvD K (tOp (fun x y H Q => y = .non ∧ Q (.bl (decide (x = .non))) H) ta (tC .non)) G (.bl (isNon d)) := ev_op (b := .non) ha ev_non fun F H v w s hx hy Q q => by
  cases hy
  exact ⟨rfl, q _ F H (Step.refl s) (by show V.bl _ = V.bl _; rw [rep_non hx])⟩
theorem ev_notN (ha : EvD K ta G d) : EvD K (tOp (fun x y H Q => y = .non ∧ Q (.bl (!decide (x = .non))) H) ta (tC .non)) G (.bl (!isNon d)) := ev_op (b := .non) ha ev_non fun F H v w s hx hy Q q => by
  cases hy
  exact ⟨rfl, q _ F H (Step.refl s) (by show V.bl _ = V.bl _; rw [rep_non hx])⟩
theorem ev_notT {i j : Bool} (ha : EvD K ta G (.bl i)) : EvD K (tOp rNotB ta (tC (.bl j))) G (.bl (!decide (i = j))) := ev_op (b := .bl j) ha ev_bl fun F H x y s hx hy Q q => by
  cases hx
  cases hy
  exact ⟨i, j, rfl, rfl, q _ F H (Step.refl s) rfl⟩
theorem ev_isT {i j : Bool} (ha : EvD K ta G (.bl i)) : EvD K (tOp rIsB ta (tC (.bl j))) G (.bl (decide (i = j))) := ev_op (b := .bl j) ha ev_bl fun F H x y s hx hy Q q => by
  cases hx
  cases hy
  exact ⟨i, j, rfl, rfl, q _ F H (Step.refl s) rfl⟩
end
theorem like_t3 {α : Type} [DecidableEq α] {ea : α → D} {k : Nat} (h : Like ea k) : Like (fun t : α × α × α => D.tup [ea t.1, ea t.2.1, ea t.2.2]) (k + 1) := by
  refine ⟨fun t => by simp [okD, okDs, h.ok], fun a b => ?_⟩
  obtain ⟨x, y, z⟩ := a
  obtain ⟨u, v, w⟩ := b
  simp only [py, pys, PyData.eqv, PyData.eqvAll, h.eq]
  by_cases q : x = u <;> by_cases r : y = v <;> by_cases t : z = w <;> simp [q, r, t]
theorem like_tri : Like triD 2 := like_t3 like_ints
end Cw
set_option maxHeartbeats 4000000
namespace Cw
open PySem PySem.Spec PyProof.Rows L2
theorem parts_lastE {c : Cur} {T : Tri} (hp : 0 < c.1) (enc : Tri → D) : atI ((fParts c T).map enc) (-1) = some (enc (fLast c T)) := by
  apply atI_last1
  unfold fParts rangeI
  obtain ⟨n, hn⟩ : ∃ n, c.1.toNat = n + 1 := ⟨c.1.toNat - 1, by omega⟩
  have e : (n : Int) = c.1 - 1 := by omega
  rw [hn, List.range_succ]
  simp [fLast, e]
theorem parts_firstE {c : Cur} {T : Tri} (hp : 0 < c.1) (enc : Tri → D) : atI ((fParts c T).map enc) 0 = some (enc (fPart c T 0)) := by
  unfold fParts rangeI
  obtain ⟨n, hn⟩ : ∃ n, c.1.toNat = n + 1 := ⟨c.1.toNat - 1, by omega⟩
  rw [hn, List.range_succ_eq_map]
  have : atI (List.map enc (List.map (fPart c T) (List.map (fun (k : Nat) => (0 : Int) + (k : Int)) (0 :: List.map Nat.succ (List.range n))))) ((0 : Nat) : Int) = _ := atI_nat rfl
  exact this
theorem parts_lenE {c : Cur} {T : Tri} : (fParts c T).length = c.1.toNat := by
  unfold fParts
  rw [List.length_map, rangeI_len]
theorem fSrc_in {c : Cur} {T : Tri} {n : Nat} (cv : CvOk c) (hT : FnIn c T n) : FnIn c (fSrc c T) (13 * n + 130) := by
  have hpg := cv.pm.ge
  have hpl := cv.pm.le
  have a1 := hT.sz
  obtain ⟨h1, h2, h3, h4⟩ := src_nrm cv hT.ls
  have e1 := fLow_len cv hT
  have e2 := fHigh_len cv hT
  have l2 := ppow_len (p := c.1) (a := c.2) (n := ((c.1 + 1) / 2).toNat)
  have k2 : ((c.1 + 1) / 2).toNat * c.2.length ≤ 7 * 8 := Nat.mul_le_mul (by omega) cv.len
  have s1 := pSrc_len (p := c.1) (l := fLow c T)
  have s2 := pSrc_len (p := c.1) (l := fHigh c T)
  have t1 := pStretch_len (p := c.1) (l := T.2.2) cv.pos hpl
  have m1 := pmul_len (p := c.1) (a := pSrc c.1 (fLow c T)) (b := ppow c.1 c.2 ((c.1 + 1) / 2).toNat)
  have m2 := pmul_len (p := c.1) (a := pStretch c.1 T.2.2) (b := ppow c.1 c.2 ((c.1 + 1) / 2).toNat)
  exact least_in cv h1 h2 h3 h4 (n := 13 * n + 129) (by omega) (by omega) (by omega)
def p__law_asked (K : Fg) (ds : List D) (d : D) : Prop := ∃ c T, ds = [toldD c, fnD K c T] ∧ (CvOk c ∧ FnIn c T 200) ∧ d = .bl true
end Cw
set_option maxHeartbeats 4000000
namespace Cw
open PySem PySem.Spec PyProof.Rows L2
def p__law_random (ds : List D) (d : D) : Prop := ∃ b v : Int, ds = [.int b] ∧ (1 ≤ b ∧ b ≤ 1000) ∧ d = .int v ∧ 0 ≤ v ∧ v < b
def p__law_poly (ds : List D) (d : D) : Prop := ∃ (p most : Int) (l : List Int), ds = [.int p, .int most] ∧ (Pm p ∧ 0 ≤ most ∧ most ≤ 10) ∧ Nrm p l ∧ (l.length : Int) ≤ most + 1 ∧ d = inD l
def p__law_curve (ds : List D) (d : D) : Prop := ∃ c : Cur, ds = [.int 5] ∧ CvOk c ∧ c.2.length ≤ 6 ∧ d = toldD c
def p__law_triple (ds : List D) (d : D) : Prop := ∃ (c : Cur) (most : Int) (T : Tri), ds = [toldD c, .int most] ∧ (Pm c.1 ∧ 0 ≤ most ∧ most ≤ 10) ∧ TrIn c T 11 ∧ d = triD T
def p__law_right (ds : List D) (d : D) : Prop := ds = [] ∧ d = .bl true
/-! ### a list that is drawn from, changed in place by the defs that are handed it -/
def GHas (H : Hp) (g : Addr) (n : Nat) : Prop := ∃ x s c : Int, H g = some (.lst [.int x, .int s, .int c]) ∧ 0 ≤ x ∧ 0 ≤ s ∧ s < 2 ^ 32 ∧ 0 ≤ c ∧ c ≤ n
theorem GHas.mono {H : Hp} {g : Addr} {n m : Nat} (h : GHas H g n) (k : n ≤ m) : GHas H g m := by
  obtain ⟨x, s, c, h1, h2, h3, h4, h5, h6⟩ := h
  exact ⟨x, s, c, h1, h2, h3, h4, h5, by omega⟩
def spG (K : Fg) (k : Nat) (P : List D → D → Prop) : Sp := fun vs H Q _ => ∃ F g us ds n, vs = .ref g :: us ∧ Same F (del H g) ∧ GHas H g n ∧ n + k ≤ 2 ^ 30 ∧ Reps K F ds us ∧ (∃ d, P ds d) ∧
  ∀ v d F' H', P ds d → Step F (del H g) F' (del H' g) → GHas H' g (n + k) → Rep K F' d v → Q v H'
section
variable {K : Fg} {g : Addr} {i : Nat} {G : Ctx} {n n1 n2 : Nat} {te ta tb tc : TE} {tr : TA} {t u r : TS} {d e : D} {ds : List D}
theorem del_upd {H : Hp} {o : HO} : del (upd H g o) g = del H g := funext fun b => by
  by_cases q : b = g
  · subst q; rw [del_x, del_x]
  · rw [del_ne q, del_ne q, upd_ne q]
theorem none_of_del {F H : Hp} (s : Same F (del H g)) : F g = none := by
  cases h : F g with
  | none => rfl
  | some o =>
    have := s _ _ h
    rw [del_x] at this
    cases this
theorem Step.dl {F H F' H' : Hp} {o : HO} (hf : F g = none) (hg : H g = some o) (t : Step F H F' H') : Step F (del H g) F' (del H' g) ∧ H' g = some o := by
  have hf' := (t.kp hg hf).2
  refine ⟨⟨t.ff, fun b u e => ?_, fun b u e => ?_, fun a m => ?_⟩, t.hh _ _ hg⟩
  · by_cases q : b = g
    · subst q; rw [del_x] at e; cases e
    · rw [del_ne q] at e ⊢; exact t.hh b u e
  · rw [del_ne (ne_of_none e hf')]; exact t.fh b u e
  · rcases t.nw a m with z | z
    · exact .inl z
    · refine .inr ?_
      rw [del_ne (fun y => by subst y; rw [hg] at z; cases z)]
      exact z
theorem SOk.dl {F0 H0 F H : Hp} {σ : L2.St} (s : SOk K F0 H0 F (del H g) σ G) : SOk K F0 H0 F H σ G where
  st := ⟨s.st.ff, s.st.hh.trans del_same, s.st.fh.trans del_same, s.st.nw⟩
  len := s.len
  sl := fun j c e => by
    obtain ⟨o, h1, h2⟩ := s.sl j c e
    refine ⟨o, h1, ?_⟩
    cases c with
    | un => trivial
    | val d => exact h2
    | own es =>
      obtain ⟨b, ws, rfl, k1, k2, k3, k4⟩ := h2
      exact ⟨b, ws, rfl, del_same _ _ k1, k2, k3, k4⟩
  ap := s.ap
/-- an expression that may draw: what it may be worth, how far the count goes -/
def EvG (K : Fg) (g : Addr) (i : Nat) (te : TE) (G : Ctx) (n n' : Nat) (P : D → Prop) : Prop := ∀ F0 H0 F H σ, SOk K F0 H0 F (del H g) σ G → σ[i]? = some (some (.ref g)) → GHas H g n → ∀ Q : VK, (∀ v d F' H', P d → Step F (del H g) F' (del H' g) → GHas H' g n' → Rep K F' d v → Q v H') → te σ H Q
def EvGA (K : Fg) (g : Addr) (i : Nat) (ta : TA) (G : Ctx) (n n' : Nat) (P : List D → Prop) : Prop := ∀ F0 H0 F H σ, SOk K F0 H0 F (del H g) σ G → σ[i]? = some (some (.ref g)) → GHas H g n → ∀ Q : List V → Hp → Prop, (∀ vs ds F' H', P ds → Step F (del H g) F' (del H' g) → GHas H' g n' → Reps K F' ds vs → Q vs H') → ta σ H Q
/-- a statement that may draw and hands back -/
def StG (K : Fg) (g : Addr) (i : Nat) (t : TS) (G : Ctx) (n N : Nat) (R : D → Prop) : Prop := ∀ F0 H0 F H σ (E : Ends), SOk K F0 H0 F (del H g) σ G → σ[i]? = some (some (.ref g)) → GHas H g n → (∀ v d F' H', R d → Step F0 H0 F' (del H' g) → GHas H' g N → Rep K F' d v → E.rt v H') → t E σ H
/-- .. and goes on -/
def StGN (K : Fg) (g : Addr) (i : Nat) (t : TS) (G : Ctx) (n n' : Nat) (O : Ctx → Prop) : Prop := ∀ F0 H0 F H σ (E : Ends), SOk K F0 H0 F (del H g) σ G → σ[i]? = some (some (.ref g)) → GHas H g n → (∀ σ' F' H' G', O G' → Same F F' → SOk K F0 H0 F' (del H' g) σ' G' → σ'[i]? = some (some (.ref g)) → GHas H' g n' → E.nx σ' H') → t E σ H
theorem eg_ev (h : EvD K te G d) : EvG K g i te G n n (fun x => x = d) := fun F0 H0 F H σ s hi hg Q q => by
  obtain ⟨x, y, z, k1, k2⟩ := hg
  refine h F0 H0 F H σ s.dl Q fun v F' H' t r => ?_
  obtain ⟨a, b⟩ := t.dl (none_of_del s.fh) k1
  exact q v d F' H' rfl a ⟨x, y, z, b, k2⟩ r
theorem EvG.imp {P P' : D → Prop} (h : EvG K g i te G n n1 P) (k : ∀ d, P d → P' d) : EvG K g i te G n n1 P' := fun F0 H0 F H σ s hi hg Q q => h F0 H0 F H σ s hi hg Q fun v d F' H' p => q v d F' H' (k d p)
theorem EvG.up {P : D → Prop} (h : EvG K g i te G n n1 P) (k : n1 ≤ n2) : EvG K g i te G n n2 P := fun F0 H0 F H σ s hi hg Q q => h F0 H0 F H σ s hi hg Q fun v d F' H' p t hh => q v d F' H' p t (hh.mono k)
theorem ega_nil : EvGA K g i tNil G n n (fun ds => ds = []) := fun F0 H0 F H σ s hi hg Q q => q [] [] F H rfl (Step.refl s.fh) hg rfl
theorem ega_cons {P : D → Prop} {PA : D → List D → Prop} (h : EvG K g i te G n n1 P) (k : ∀ d, P d → EvGA K g i tr G n1 n2 (PA d)) : EvGA K g i (tCons te tr) G n n2 (fun ds => ∃ d es, ds = d :: es ∧ P d ∧ PA d es) := fun F0 H0 F H σ s hi hg Q q =>
  h F0 H0 F H σ s hi hg _ fun v d F1 H1 p t1 g1 r1 => k d p F0 H0 F1 H1 σ (s.step t1) hi g1 _ fun vs es F2 H2 pa t2 g2 r2 => q (v :: vs) (d :: es) F2 H2 ⟨d, es, rfl, p, pa⟩ (t1.trans t2) g2 (Reps.cons (Rep.mono t2.ff _ _ r1) r2)
theorem ega_ev (h : EvA K tr G ds) : EvGA K g i tr G n n (fun x => x = ds) := fun F0 H0 F H σ s hi hg Q q => by
  obtain ⟨x, y, z, k1, k2⟩ := hg
  refine h F0 H0 F H σ s.dl Q fun vs F' H' t r => ?_
  obtain ⟨a, b⟩ := t.dl (none_of_del s.fh) k1
  exact q vs ds F' H' rfl a ⟨x, y, z, b, k2⟩ r
/-- a def that draws -/
theorem eg_call {k : Nat} {P : List D → D → Prop} {E : XK} {PA : List D → Prop} (hk : n1 + k ≤ 2 ^ 30) (h : EvGA K g i tr G n n1 PA) (p : ∀ ds, PA ds → ∃ d, P ds d) : EvG K g i (tCall (spG K k P) [] E (tCons (tVar i) tr)) G n (n1 + k) (fun d => ∃ ds, PA ds ∧ P ds d) := fun F0 H0 F H σ s hi hg Q q =>
  ⟨.ref g, hi, h F0 H0 F H σ s hi hg _ fun vs ds F1 H1 pa t1 g1 r1 => ⟨F1, g, vs, ds, n1, by rw [List.append_nil], t1.fh, g1, hk, r1, p ds pa, fun v d F2 H2 pd t2 g2 r2 => q v d F2 H2 ⟨ds, pa, pd⟩ (t1.trans t2) g2 r2⟩⟩
/-- a def that does not -/
theorem eg_callD {P : List D → D → Prop} {E : XK} {PA : List D → Prop} {P' : D → Prop} (h : EvGA K g i tr G n n1 PA) (p : ∀ ds, PA ds → ∃ d, P ds d ∧ P' d) : EvG K g i (tCall (spD K P) [] E tr) G n n1 P' := fun F0 H0 F H σ s hi hg Q q =>
  h F0 H0 F H σ s hi hg _ fun vs ds F1 H1 pa t1 g1 r1 => by
    obtain ⟨d, p1, p2⟩ := p ds pa
    obtain ⟨x, y, z, k1, k2⟩ := g1
    refine ⟨F1, ds, d, t1.fh.trans del_same, by rw [List.append_nil]; exact r1, p1, fun v F2 H2 t2 r2 => ?_⟩
    obtain ⟨a, b⟩ := t2.dl (none_of_del t1.fh) k1
    exact q v d F2 H2 p2 (t1.trans a) ⟨x, y, z, b, k2⟩ r2
theorem eg_op {ro : R2} {P1 P2 P : D → Prop} (h : EvG K g i ta G n n1 P1) (k : EvG K g i tb G n1 n2 P2) (op : ∀ a b, P1 a → P2 b → ∃ d, Op2 K ro a b d ∧ P d) : EvG K g i (tOp ro ta tb) G n n2 P := fun F0 H0 F H σ s hi hg Q q =>
  h F0 H0 F H σ s hi hg _ fun v a F1 H1 p1 t1 g1 r1 => k F0 H0 F1 H1 σ (s.step t1) hi g1 _ fun u b F2 H2 p2 t2 g2 r2 => by
    obtain ⟨d, o, p⟩ := op a b p1 p2
    obtain ⟨x, y, z, k1, k2⟩ := g2
    refine o F2 H2 v u (t2.fh.trans del_same) (Rep.mono t2.ff _ _ r1) r2 Q fun w F3 H3 t3 r3 => ?_
    obtain ⟨a', b'⟩ := t3.dl (none_of_del t2.fh) k1
    exact q w d F3 H3 p ((t1.trans t2).trans a') ⟨x, y, z, b', k2⟩ r3
theorem eg_tup {PA : List D → Prop} (h : EvGA K g i tr G n n1 PA) (hl : ∀ ds, PA ds → ds.length ≤ sizeLine) : EvG K g i (tTup tr) G n n1 (fun d => ∃ ds, d = .tup ds ∧ PA ds) := fun F0 H0 F H σ s hi hg Q q =>
  h F0 H0 F H σ s hi hg _ fun vs ds F1 H1 pa t1 g1 r1 => by
    refine ⟨by rw [Reps.len r1]; exact hl ds pa, fun p hp => ?_⟩
    obtain ⟨x, y, z, k1, k2⟩ := g1
    have t2 : Step F1 H1 (upd F1 p (.tup vs)) (upd H1 p (.tup vs)) := Step.newF (t1.fh.trans del_same) hp
    obtain ⟨a, b⟩ := t2.dl (none_of_del t1.fh) k1
    exact q (.ref p) (.tup ds) _ _ ⟨ds, rfl, pa⟩ (t1.trans a) ⟨x, y, z, b, k2⟩ ⟨p, vs, rfl, .inl (.inl upd_same), Reps.mono t2.ff _ _ r1⟩
theorem eg_callB1 {ro : List V → Hp → VK → Prop} {P1 P : D → Prop} (h : EvG K g i te G n n1 P1) (op : ∀ d, P1 d → ∃ e, OpA K ro [d] e ∧ P e) : EvG K g i (tCB ro (tCons te tNil)) G n n1 P := fun F0 H0 F H σ s hi hg Q q =>
  h F0 H0 F H σ s hi hg _ fun v d F1 H1 p t1 g1 r1 => by
    obtain ⟨e, o, pe⟩ := op d p
    obtain ⟨x, y, z, k1, k2⟩ := g1
    refine o F1 H1 [v] (t1.fh.trans del_same) (Reps.one r1) Q fun w F2 H2 t2 r2 => ?_
    obtain ⟨a, b⟩ := t2.dl (none_of_del t1.fh) k1
    exact q w e F2 H2 pe (t1.trans a) ⟨x, y, z, b, k2⟩ r2
theorem ev_bits {b : Int} (h : EvD K te G (.int b)) : EvD K (tBits te) G (.int (Builtin.Int.intBits b : Nat)) := fun F0 H0 F H σ s Q q => h F0 H0 F H σ s _ fun v F1 H1 t1 r1 => ⟨b, r1, q _ F1 H1 t1 rfl⟩
theorem ev_fdivW {a b : Int} (hc : CDivW a b) (ha : EvD K ta G (.int a)) (hb : EvD K tb G (.int b)) : EvD K (tOp (rI CDivW fun i j => .int (i / j)) ta tb) G (.int (a / b)) := ev_op ha hb (op_I hc fun _ => rfl)
/-! statements -/
theorem sg_ret {N : Nat} {P R : D → Prop} (h : EvG K g i te G n n1 P) (hn : n1 ≤ N) (k : ∀ d, P d → R d) : StG K g i (tRet te) G n N R := fun F0 H0 F H σ E s hi hg q => h F0 H0 F H σ s hi hg _ fun v d F1 H1 p t1 g1 r1 => q v d F1 H1 (k d p) (s.st.trans t1) (g1.mono hn) r1
theorem sg_set {N j : Nat} {P R : D → Prop} (hj : j ≠ i) (h : EvG K g i te G n n1 P) (k : ∀ d, P d → StG K g i r (G.set j (.val d)) n1 N R) : StG K g i (tSeq (tAsg te (gName j)) r) G n N R := fun F0 H0 F H σ E s hi hg q => h F0 H0 F H σ s hi hg _ fun v d F1 H1 p t1 g1 r1 =>
  k d p F0 H0 F1 H1 (σ.set j (some v)) E ((s.step t1).set r1) (by rw [List.getElem?_set_ne hj]; exact hi) g1 q
theorem sg_seqN {N : Nat} {O : Ctx → Prop} {R : D → Prop} (h : StGN K g i t G n n1 O) (k : ∀ G', O G' → StG K g i r G' n1 N R) : StG K g i (tSeq t r) G n N R := fun F0 H0 F H σ E s hi hg q =>
  h F0 H0 F H σ { E with nx := r E } s hi hg fun σ' F' H' G' o _ s' hi' hg' => k G' o F0 H0 F' H' σ' E s' hi' hg' q
theorem SOk.keep {F0 H0 F H : Hp} {σ : L2.St} {o : HO} (s : SOk K F0 H0 F (del H g) σ G) (hg : H g = some o) : SOk K F0 (upd H0 g o) F H σ G where
  st := ⟨s.st.ff, fun b u e => by
    by_cases q : b = g
    · subst q; rw [upd_same] at e; rw [hg]; exact e
    · rw [upd_ne q] at e; exact del_same _ _ (s.st.hh b u e), s.st.fh.trans del_same, fun a m => by
    rcases s.st.nw a m with z | z
    · exact .inl z
    · refine .inr ?_
      rw [upd_ne (fun y => by subst y; exact m (none_of_del s.st.fh))]
      exact z⟩
  len := s.len
  sl := fun j c e => by
    obtain ⟨o', h1, h2⟩ := s.sl j c e
    refine ⟨o', h1, ?_⟩
    cases c with
    | un => trivial
    | val d => exact h2
    | own es =>
      obtain ⟨b, ws, rfl, k1, k2, k3, k4⟩ := h2
      refine ⟨b, ws, rfl, del_same _ _ k1, k2, ?_, k4⟩
      rw [upd_ne (fun y => by subst y; rw [del_x] at k1; cases k1)]
      exact k3
  ap := s.ap
theorem Step.unkeep {F0 H0 F' H' : Hp} {o : HO} (h0 : H0 g = none) (f0 : F0 g = none) (t : Step F0 (upd H0 g o) F' H') : Step F0 H0 F' (del H' g) ∧ H' g = some o := by
  have k := t.kp (upd_same (H := H0) (a := g) (o := o)) f0
  refine ⟨⟨t.ff, fun b u e => ?_, fun b u e => ?_, fun a m => ?_⟩, k.1⟩
  · have q := ne_of_none e h0
    rw [del_ne q]
    exact t.hh b u (by rw [upd_ne q]; exact e)
  · rw [del_ne (ne_of_none e k.2)]; exact t.fh b u e
  · rcases t.nw a m with z | z
    · exact .inl z
    · refine .inr ?_
      have q : a ≠ g := fun y => by subst y; exact m k.2
      rw [upd_ne q] at z
      exact z
/-- the rest draws no more -/
theorem sg_rest {N : Nat} (hn : n ≤ N) (h : StD K t G (.rt d)) : StG K g i t G n N (fun x => x = d) := fun F0 H0 F H σ E s hi hg q => by
  obtain ⟨x, y, z, k1, k2⟩ := hg
  have h0 : H0 g = none := by
    cases e : H0 g with
    | none => rfl
    | some u =>
      have := s.st.hh _ _ e
      rw [del_x] at this
      cases this
  have f0 : F0 g = none := none_of_del (s.st.ff.trans s.st.fh)
  refine h F0 (upd H0 g _) F H σ E (s.keep k1) fun v F' H' t f rv => ?_
  obtain ⟨a, b⟩ := t.unkeep h0 f0
  exact q v d F' H' rfl a (GHas.mono ⟨x, y, z, b, k2⟩ hn) rv
theorem sg_par {N j l : Nat} {P1 P2 R : D → Prop} (hj : j ≠ i) (hl : l ≠ i) (h : EvG K g i ta G n n1 P1) (k : EvG K g i tb G n1 n2 P2) (m : ∀ d e, P1 d → P2 e → StG K g i r ((G.set j (.val d)).set l (.val e)) n2 N R) : StG K g i (tSeq (tPar j l (tCons ta (tCons tb tNil))) r) G n N R := fun F0 H0 F H σ E s hi hg q =>
  h F0 H0 F H σ s hi hg _ fun v d F1 H1 p1 t1 g1 r1 => k F0 H0 F1 H1 σ (s.step t1) hi g1 _ fun u e F2 H2 p2 t2 g2 r2 => ⟨v, u, rfl,
    m d e p1 p2 F0 H0 F2 H2 _ E ((((s.step t1).step t2).set (Rep.mono t2.ff _ _ r1)).set r2) (by rw [List.getElem?_set_ne hl, List.getElem?_set_ne hj]; exact hi) g2 q⟩
/-- a loop of m turns that draws -/
theorem sgn_for {m k j : Nat} {body : TS} {O : Ctx → Prop} (hm : (m : Int) < 2 ^ 62) (hj : j ≠ i) (hta : EvD K ta G (.int m)) (h0 : O G) (hb : ∀ (G' : Ctx) (x : Int) (n' : Nat), O G' → n' + k ≤ n + m * k → StGN K g i body (G'.set j (.val (.int x))) n' (n' + k) O) :
    StGN K g i (tFor (iRng1 (tCons ta tNil)) (gName j) body) G n (n + m * k) O := fun F0 H0 F H σ E s hi hg q => by
  refine eg_ev (K := K) (g := g) (i := i) (n := n) hta F0 H0 F H σ s hi hg _ fun v d F1 H1 pd t1 g1 r1 => ?_
  subst pd
  cases r1
  have s := s.step t1
  have hg := g1
  have q : ∀ (σ' : L2.St) (F' H' : Hp) (G' : Ctx), O G' → Same F1 F' → SOk K F0 H0 F' (del H' g) σ' G' → σ'[i]? = some (some (V.ref g)) → GHas H' g (n + m * k) → E.nx σ' H' := fun σ' F' H' G' o sf => q σ' F' H' G' o (t1.ff.trans sf)
  generalize F1 = F at s hg q
  generalize H1 = H at s hg
  refine ⟨(m : Int), rfl, by omega, hm, ?_⟩
  rw [Int.toNat_natCast]
  refine ⟨fun idx mm σ' H' => mm = m - idx ∧ idx ≤ m ∧ ∃ F' G', O G' ∧ Same F F' ∧ SOk K F0 H0 F' (del H' g) σ' G' ∧ σ'[i]? = some (some (.ref g)) ∧ GHas H' g (n + idx * k), ⟨m, rfl, Nat.zero_le _, F, G, h0, Same.refl _, s, hi, by rw [Nat.zero_mul]; exact hg⟩, ?_⟩
  rintro idx mm σ' H' ⟨rfl, hidx, F', G', o, sf, s', hi', hg'⟩
  by_cases hlt : idx < m
  · have hk : n + idx * k + k ≤ n + m * k := by
      have := Nat.mul_le_mul_right k hlt
      rw [Nat.succ_mul] at this
      omega
    refine .inr ⟨hlt, fun σ2 H2 => ∃ F' G', O G' ∧ Same F F' ∧ SOk K F0 H0 F' (del H2 g) σ2 G' ∧ σ2[i]? = some (some (.ref g)) ∧ GHas H2 g (n + (idx + 1) * k), fun σ2 H2 ⟨F2, G2, p1, p2, p3, p4, p5⟩ => ⟨m - (idx + 1), by omega, rfl, hlt, F2, G2, p1, p2, p3, p4, p5⟩, ?_⟩
    rintro x H2 ⟨rfl, rfl⟩
    refine hb G' _ (n + idx * k) o hk F0 H0 F' H2 _ _ (s'.set rfl) (by rw [List.getElem?_set_ne hj]; exact hi') hg' fun σ3 F3 H3 G3 o3 f3 s3 hi3 hg3 => ?_
    exact ⟨F3, G3, o3, sf.trans f3, s3, hi3, by rw [Nat.succ_mul, ← Nat.add_assoc]; exact hg3⟩
  · have e : idx = m := by omega
    subst e
    exact .inl ⟨Nat.le_refl _, q σ' F' H' G' o sf s' hi' hg'⟩
/-- [f(..) for x in range(f(..))] where both may draw -/
theorem eg_lc {M k n0 : Nat} {j : Nat} {vs : List Nat} {P : D → Prop} {P1 : D → Prop} (hM : M ≤ 1000) (hv : ∀ σ : L2.St, σ.length = G.length → (L2.wipe σ vs)[i]? = σ[i]?) (hj : j ≠ i) (hjv : j ∈ vs) (ha : EvG K g i ta G n n0 P1) (h1 : ∀ d, P1 d → ∃ m : Int, d = .int m ∧ 0 ≤ m ∧ m ≤ M)
    (he : ∀ (x : Int) (n' : Nat), n' + k ≤ n0 + M * k → EvG K g i te ((wipeC G vs).set j (.val (.int x))) n' (n' + k) P) :
    EvG K g i (tLc (iRng1 (tCons ta tNil)) (gName j) tYes te vs) G n (n0 + M * k) (fun d => ∃ m : Int, P1 (.int m) ∧ ∃ ds, d = .lst ds ∧ (ds.length : Int) = m ∧ ∀ x ∈ ds, P x) := fun F0 H0 F H σ s hi hg Q q => by
  refine ha F0 H0 F H σ s hi hg _ fun v d F1 H1 p1 t1 g1 r1 => ?_
  obtain ⟨m, rfl, m0, m1⟩ := h1 d p1
  cases r1
  refine ⟨m, rfl, by omega, by omega, ?_⟩
  obtain ⟨w, rfl⟩ : ∃ w : Nat, m = (w : Int) := ⟨m.toNat, by omega⟩
  rw [Int.toNat_natCast]
  intro D hD
  have s1 := s.step t1
  have hgD : D ≠ g := fun z => by
    subst z
    obtain ⟨x, y, z, k1, _⟩ := g1
    rw [k1] at hD
    cases hD
  have gup : ∀ {H : Hp} {o : HO} {n : Nat}, GHas H g n → GHas (upd H D o) g n := fun {H o n} gh => by
    obtain ⟨x, y, z, k1, k2⟩ := gh
    exact ⟨x, y, z, by rw [upd_ne (Ne.symm hgD)]; exact k1, k2⟩
  have dup : ∀ {H : Hp} {o : HO}, del (upd H D o) g = upd (del H g) D o := fun {H o} => funext fun b => by
    by_cases q : b = g
    · subst q; rw [del_x, upd_ne (Ne.symm hgD), del_x]
    · rw [del_ne q]
      by_cases q2 : b = D
      · subst q2; rw [upd_same, upd_same]
      · rw [upd_ne q2, upd_ne q2, del_ne q]
  have hDd : (del H1 g) D = none := by rw [del_ne hgD]; exact hD
  refine ⟨fun idx mm H' => mm = w - idx ∧ idx ≤ w ∧ ∃ F' us ds, Step F1 (del H1 g) F' (del H' g) ∧ H' D = some (.lst us) ∧ F' D = none ∧ Reps K F' ds us ∧ ds.length = idx ∧ (∀ x ∈ ds, P x) ∧ GHas H' g (n0 + idx * k), ⟨w, rfl, Nat.zero_le _, F1, [], [], by rw [dup]; exact Step.newP t1.fh hDd, upd_same, t1.fh.free hDd, rfl, rfl, fun _ z => absurd z List.not_mem_nil, by rw [Nat.zero_mul]; exact gup g1⟩, ?_⟩
  rintro idx mm H' ⟨rfl, hidx, F', us, ds, t', hu, hf, ru, hl, hp, hg'⟩
  by_cases hlt : idx < w
  · have hk : n0 + idx * k + k ≤ n0 + M * k := by
      have := Nat.mul_le_mul_right k (show idx + 1 ≤ M by omega)
      rw [Nat.succ_mul] at this
      omega
    refine .inr ⟨hlt, fun H2 => ∃ F' us ds, Step F1 (del H1 g) F' (del H2 g) ∧ H2 D = some (.lst us) ∧ F' D = none ∧ Reps K F' ds us ∧ ds.length = idx + 1 ∧ (∀ x ∈ ds, P x) ∧ GHas H2 g (n0 + (idx + 1) * k), fun H2 ⟨F2, us2, ds2, p⟩ => ⟨w - (idx + 1), by omega, rfl, hlt, F2, us2, ds2, p⟩, ?_⟩
    rintro x H2 ⟨rfl, rfl⟩
    have s2 := ((s1.step t').wipe vs).set (i := j) (d := .int (0 + (idx : Int))) (v := .int (0 + (idx : Int))) rfl
    have hi2 : ((L2.wipe σ vs).set j (some (V.int (0 + (idx : Int)))))[i]? = some (some (.ref g)) := by
      rw [List.getElem?_set_ne hj, hv σ s.len]; exact hi
    refine ⟨wipe_back (is := [j]) (by rw [List.length_set]) (fun l hl => List.getElem?_set_ne (fun z => hl (by simp [z]))) (fun l hl => by simp at hl; subst hl; exact hjv), ?_⟩
    dsimp only [tYes]
    rw [if_pos rfl]
    refine he _ (n0 + idx * k) hk F0 H0 F' H2 _ s2 hi2 hg' _ fun y dy F3 H3 py t3 g3 r3 => ?_
    have hD2 : (del H2 g) D = some (.lst us) := by rw [del_ne hgD]; exact hu
    obtain ⟨k1, k2⟩ := t3.kp hD2 hf
    rw [del_ne hgD] at k1
    refine ⟨us, k1, by rw [ru.len, hl]; exact Nat.lt_of_lt_of_le (show idx < 1000 by omega) (by decide), F3, us ++ [y], ds ++ [dy], ?_, upd_same, k2, (Reps.mono t3.ff _ _ ru).app (Reps.one r3), by rw [List.length_append, hl]; rfl, fun z hz => ?_, ?_⟩
    · rw [dup]
      exact (t'.trans t3).mutP hDd k2
    · rcases List.mem_append.mp hz with a | a
      · exact hp z a
      · rw [List.mem_singleton.mp a]; exact py
    · rw [Nat.succ_mul, ← Nat.add_assoc]
      exact gup g3
  · have e : idx = w := by omega
    subst e
    have hD2 : (del H' g) D = some (.lst us) := by rw [del_ne hgD]; exact hu
    refine .inl ⟨Nat.le_refl _, q (.ref D) (.lst ds) (upd F' D (.lst us)) H' ⟨_, p1, ds, rfl, by rw [hl], hp⟩ (t1.trans (t'.pub hDd hf hD2)) (hg'.mono ?_) ⟨D, us, rfl, upd_same, Reps.mono (same_new hf) _ _ ru⟩⟩
    have := Nat.mul_le_mul_right k (show idx ≤ M by omega)
    omega
/-! the drawn list itself -/
theorem eg_cell {j : Nat} (hj : j < 3) : EvG K g i (tOp (rIxL K) (tVar i) (tC (.int (j : Int)))) G n n (fun d => ∃ v : Int, d = .int v ∧ 0 ≤ v ∧ (j = 1 → v < 2 ^ 32) ∧ (j = 2 → v ≤ n)) := fun F0 H0 F H σ s hi hg Q q => by
  obtain ⟨x, y, z, k1, k2, k3, k4, k5, k6⟩ := hg
  have hg : GHas H g n := ⟨x, y, z, k1, k2, k3, k4, k5, k6⟩
  obtain ⟨v, hv, h1, h2, h3⟩ : ∃ v : Int, atI [V.int x, V.int y, V.int z] (j : Int) = some (.int v) ∧ 0 ≤ v ∧ (j = 1 → v < 2 ^ 32) ∧ (j = 2 → v ≤ n) := by
    have hj' : j = 0 ∨ j = 1 ∨ j = 2 := by omega
    rcases hj' with rfl | rfl | rfl
    · exact ⟨x, rfl, k2, fun h => by omega, fun h => by omega⟩
    · exact ⟨y, rfl, k3, fun _ => k4, fun h => by omega⟩
    · exact ⟨z, rfl, k5, fun h => by omega, fun _ => k6⟩
  exact ⟨.ref g, hi, g, _, (j : Int), .int v, rfl, rfl, .inl (.inl k1), hv, q (.int v) (.int v) F H ⟨v, rfl, h1, h2, h3⟩ (Step.refl s.fh) hg rfl⟩
theorem ghas_set {H : Hp} {j : Nat} {v : Int} {vs : List V} (hj : j < 3) (h : GHas H g n) (e : H g = some (.lst vs)) (h0 : 0 ≤ v) (h1 : j = 1 → v < 2 ^ 32) (h2 : j = 2 → v ≤ n1) (hn : n ≤ n1) : GHas (upd H g (.lst (vs.set j (.int v)))) g n1 := by
  obtain ⟨x, y, z, k1, k2, k3, k4, k5, k6⟩ := h
  rw [k1] at e
  cases e
  have hj' : j = 0 ∨ j = 1 ∨ j = 2 := by omega
  rcases hj' with rfl | rfl | rfl
  · exact ⟨v, y, z, upd_same, h0, k3, k4, k5, by omega⟩
  · exact ⟨x, v, z, upd_same, k2, h0, h1 rfl, k5, by omega⟩
  · exact ⟨x, y, v, upd_same, k2, k3, k4, h0, h2 rfl⟩
theorem raw_gset {j : Nat} {P : D → Prop} (hj : j < 3) (h : EvG K g i te G n n1 P) (ok : ∀ d, P d → ∃ v : Int, d = .int v ∧ 0 ≤ v ∧ (j = 1 → v < 2 ^ 32) ∧ (j = 2 → v ≤ n2)) (hn : n1 ≤ n2) {F0 H0 F H : Hp} {σ : L2.St} (s : SOk K F0 H0 F (del H g) σ G) (hi : σ[i]? = some (some (.ref g))) (hg : GHas H g n) {E : Ends}
    (q : ∀ F' H', Step F (del H g) F' (del H' g) → GHas H' g n2 → E.nx σ H') : tAsg te (gSub (tVar i) (tC (.int (j : Int))) rSetL) E σ H := by
  refine h F0 H0 F H σ s hi hg _ fun v d F1 H1 p t1 g1 r1 => ?_
  obtain ⟨w, rfl, w0, w1, w2⟩ := ok d p
  cases r1
  obtain ⟨x, y, z, k1, k2⟩ := id g1
  refine ⟨.ref g, hi, g, [.int x, .int y, .int z], (j : Int), j, rfl, rfl, k1, ?_, q F1 _ (by rw [del_upd]; exact t1) (ghas_set hj g1 k1 w0 w1 w2 hn)⟩
  have hj' : j = 0 ∨ j = 1 ∨ j = 2 := by omega
  rcases hj' with rfl | rfl | rfl <;> rfl
theorem sg_gset {j N : Nat} {P R : D → Prop} (hj : j < 3) (h : EvG K g i te G n n1 P) (ok : ∀ d, P d → ∃ v : Int, d = .int v ∧ 0 ≤ v ∧ (j = 1 → v < 2 ^ 32) ∧ (j = 2 → v ≤ n2)) (hn : n1 ≤ n2) (k : StG K g i r G n2 N R) : StG K g i (tSeq (tAsg te (gSub (tVar i) (tC (.int (j : Int))) rSetL)) r) G n N R := fun F0 H0 F H σ E s hi hg q =>
  raw_gset hj h ok hn s hi hg (E := { E with nx := r E }) fun F' H' t gg => k F0 H0 F' H' σ E (s.step t) hi gg q
theorem sg_seqR {N : Nat} {R : D → Prop} (h : StG K g i t G n N R) : StG K g i (tSeq t r) G n N R := fun F0 H0 F H σ E s hi hg q => h F0 H0 F H σ { E with nx := r E } s hi hg q
theorem sg_if {N : Nat} {P R : D → Prop} (h : EvG K g i te G n n1 P) (hb : ∀ d, P d → ∃ b : Bool, d = .bl b) (k1 : StG K g i (tSeq t r) G n1 N R) (k2 : StG K g i (tSeq u r) G n1 N R) : StG K g i (tSeq (tIfS (tTest te) t u) r) G n N R := fun F0 H0 F H σ E s hi hg q =>
  h F0 H0 F H σ s hi hg _ fun v d F1 H1 p t1 g1 r1 => by
    obtain ⟨b, rfl⟩ := hb d p
    cases r1
    refine ⟨b, rfl, ?_⟩
    cases b with
    | true => exact iteT (k1 F0 H0 F1 H1 σ E (s.step t1) hi g1 q)
    | false => exact iteF (k2 F0 H0 F1 H1 σ E (s.step t1) hi g1 q)
theorem sg_next {N : Nat} {R : D → Prop} (h : StG K g i r G n N R) : StG K g i (tSeq tNext r) G n N R := fun F0 H0 F H σ E s hi hg q => h F0 H0 F H σ E s hi hg q
theorem sgn_gset {j : Nat} {P : D → Prop} {O : Ctx → Prop} {n3 : Nat} (hj : j < 3) (h : EvG K g i te G n n1 P) (ok : ∀ d, P d → ∃ v : Int, d = .int v ∧ 0 ≤ v ∧ (j = 1 → v < 2 ^ 32) ∧ (j = 2 → v ≤ n2)) (hn : n1 ≤ n2) (k : StGN K g i r G n2 n3 O) : StGN K g i (tSeq (tAsg te (gSub (tVar i) (tC (.int (j : Int))) rSetL)) r) G n n3 O := fun F0 H0 F H σ E s hi hg q =>
  raw_gset hj h ok hn s hi hg (E := { E with nx := r E }) fun F' H' t gg => k F0 H0 F' H' σ E (s.step t) hi gg fun σ2 F2 H2 G2 o f => q σ2 F2 H2 G2 o (t.ff.trans f)
theorem sgn_set {j : Nat} {P : D → Prop} {O : Ctx → Prop} (hj : j ≠ i) (h : EvG K g i te G n n1 P) (k : ∀ d, P d → ∃ G', O G' ∧ Weak (G.set j (.val d)) G') : StGN K g i (tAsg te (gName j)) G n n1 O := fun F0 H0 F H σ E s hi hg q => h F0 H0 F H σ s hi hg _ fun v d F1 H1 p t1 g1 r1 => by
  obtain ⟨G', o, w⟩ := k d p
  exact q (σ.set j (some v)) F1 H1 G' o t1.ff (((s.step t1).set r1).weak w) (by rw [List.getElem?_set_ne hj]; exact hi) g1
theorem sgn_setS {j : Nat} {P : D → Prop} {O : Ctx → Prop} (hj : j ≠ i) (h : EvG K g i te G n n1 P) (k : ∀ d, P d → StGN K g i r (G.set j (.val d)) n1 n2 O) : StGN K g i (tSeq (tAsg te (gName j)) r) G n n2 O := fun F0 H0 F H σ E s hi hg q => h F0 H0 F H σ s hi hg _ fun v d F1 H1 p t1 g1 r1 =>
  k d p F0 H0 F1 H1 (σ.set j (some v)) E ((s.step t1).set r1) (by rw [List.getElem?_set_ne hj]; exact hi) g1 fun σ2 F2 H2 G2 o f => q σ2 F2 H2 G2 o (t1.ff.trans f)
/-- names that the rest may set, but not i -/
theorem sgn_if {P : Bool} {tt : TT} {O : Ctx → Prop} {j : Nat} (hj : j ≠ i) {dv : D} (hb : EvB K tt G P) (hv : EvD K te G dv) (h1 : P = true → ∃ G', O G' ∧ Weak (G.set j (.val dv)) G') (h2 : P = false → ∃ G', O G' ∧ Weak G G') : StGN K g i (tIfS tt (tAsg te (gName j)) tNext) G n n O := fun F0 H0 F H σ E s hi hg q => by
  obtain ⟨x, y, z, k1, k2⟩ := id hg
  refine hb F0 H0 F H σ s.dl _ fun F1 H1 t1 => ?_
  obtain ⟨a, b⟩ := t1.dl (none_of_del s.fh) k1
  cases P with
  | true =>
    refine iteT (hv F0 H0 F1 H1 σ (s.step a).dl _ fun v F2 H2 t2 r2 => ?_)
    obtain ⟨a2, b2⟩ := t2.dl (none_of_del a.fh) b
    obtain ⟨G', o, w⟩ := h1 rfl
    exact q _ F2 H2 G' o (a.ff.trans a2.ff) ((((s.step a).step a2).set r2).weak w) (by rw [List.getElem?_set_ne hj]; exact hi) ⟨x, y, z, b2, k2⟩
  | false =>
    obtain ⟨G', o, w⟩ := h2 rfl
    exact iteF (q σ F1 H1 G' o a.ff ((s.step a).weak w) hi ⟨x, y, z, b, k2⟩)
end
/-- the start of a def that draws -/
theorem run_gen {K : Fg} {t : TS} {k : Nat} {P : List D → D → Prop} {N : List Str} (h : ∀ g ds n, (∃ d, P ds d) → n + k ≤ 2 ^ 30 → StG K g 0 t (.un :: ctx0 (N.length - 1) ds) n (n + k) (P ds)) (vs : List V) (H : Hp) (Q : VK) (E : XK) (p : spG K k P vs H Q E) : t { nx := fun _ H' => Q .non H', rt := Q } (L2.start N vs) H := by
  obtain ⟨F, g, us, ds, n, rfl, sf, hg, hn, r, hp, q⟩ := p
  have s := sokI (N := N) (F := F) (H := del H g) (x := g) sf (none_of_del sf) r
  rw [show del (del H g) g = del H g from funext fun b => by
    by_cases z : b = g
    · subst z; rw [del_x, del_x]
    · rw [del_ne z]] at s
  exact h g ds n hp hn F (del H g) F H _ _ s rfl hg fun v d F' H' pd t g' rv => q v d F' H' pd t g' rv
theorem spG_len {K : Fg} {k : Nat} {P : List D → D → Prop} {n : Nat} (h : ∀ ds d, P ds d → ds.length + 1 = n) : ∀ (vs : List V) (H : Hp) (Q : VK) (E : XK), spG K k P vs H Q E → vs.length = n := fun vs H Q E ⟨F, g, us, ds, m, e, _, _, _, r, ⟨d, p⟩, _⟩ => by
  rw [e, List.length_cons, r.len, h ds d p]
theorem ints_of : ∀ {xs : List D}, (∀ x ∈ xs, ∃ v : Int, x = .int v) → ∃ l : List Int, xs = l.map D.int
  | [], _ => ⟨[], rfl⟩
  | x :: xs, h => by
    obtain ⟨v, rfl⟩ := h x List.mem_cons_self
    obtain ⟨l, rfl⟩ := ints_of (xs := xs) fun y hy => h y (List.mem_cons_of_mem _ hy)
    exact ⟨v :: l, rfl⟩
end Cw
set_option maxHeartbeats 4000000
namespace Cw
open PySem PySem.Spec PyProof.Rows L2
theorem room_u1 {k : Nat} {A : Around} (r : Room k A) : A.units + 1 < cLine := by have := r.un; omega
def CPowW (i j : Int) : Prop := 0 ≤ j ∧ (Builtin.Int.intBits i : Int) * j ≤ 2 ^ 27
theorem op_powW {X : Cx} : OpR X (binaryOp .Pow) (rI CPowW fun i j => .int (i ^ j.toNat)) := opI fun _ _ _ _ _ _ _ hc q => pow_int hc.1 hc.2 q
section
variable {K : Fg} {G : Ctx} {te ta tb tc : TE} {d e : D} {F H : Hp}
theorem ev_powW {i j : Int} (hc : CPowW i j) (ha : EvD K ta G (.int i)) (hb : EvD K tb G (.int j)) : EvD K (tOp (rI CPowW fun i j => .int (i ^ j.toNat)) ta tb) G (.int (i ^ j.toNat)) := ev_op ha hb (op_I hc fun _ => rfl)
theorem op_ixLD {xs : List D} {j : Int} (h : atI xs j = some d) : Op2 K (rIxL K) (.lst xs) (.int j) d := fun F H x y s hx hy Q q => by
  obtain ⟨p, vs, rfl, h1, h2⟩ := hx
  cases hy
  obtain ⟨k, hk, hd⟩ : ∃ k, ixN xs.length j = some k ∧ xs[k]? = some d := by
    unfold atI at h
    cases z : ixN xs.length j with
    | none => rw [z] at h; cases h
    | some k => rw [z] at h; exact ⟨k, rfl, h⟩
  obtain ⟨v, hv, r⟩ := h2.get hd
  refine ⟨p, vs, j, v, rfl, rfl, .inl (.inl (s _ _ h1)), ?_, q v F H (Step.refl s) r⟩
  unfold atI
  rw [h2.len, hk]
  exact hv
theorem op_catD {xs ys : List D} (hl : xs.length + ys.length ≤ sizeLine) : Op2 K rCat (.lst xs) (.lst ys) (.lst (xs ++ ys)) := fun F H x y s hx hy Q q => by
  obtain ⟨p, vs, rfl, h1, h2⟩ := hx
  obtain ⟨p', us, rfl, k1, k2⟩ := hy
  exact ⟨p, p', vs, us, rfl, rfl, s _ _ h1, s _ _ k1, by rw [h2.len, k2.len]; exact hl, fun z hz => q (.ref z) (upd F z (.lst (vs ++ us))) _ (Step.newF s hz) ⟨z, _, rfl, upd_same, Reps.mono (same_new (s.free hz)) _ _ (h2.app k2)⟩⟩
theorem ev_min3 {a b c : Int} (ha : EvD K ta G (.int a)) (hb : EvD K tb G (.int b)) (hc : EvD K tc G (.int c)) : EvD K (tCB (rNuC3 nuMin3) (tCons ta (tCons tb (tCons tc tNil)))) G (.int (min (min a b) c)) := ev_cb (ea3 ha hb hc) fun F H vs s hx Q q => by
  obtain ⟨v, r, rfl, h1, u, r2, rfl, h2, w, r3, rfl, h3, h4⟩ := hx
  cases h1
  cases h2
  cases h3
  cases h4
  refine ⟨.int a, .int b, .int c, .int (min (min a b) c), rfl, ?_, q _ F H (Step.refl s) rfl⟩
  unfold nuMin3 nuMin2 nuLt nuCB
  simp only [Option.map_some, Option.bind_some, decide_eq_true_eq]
  by_cases h : b < a
  · rw [if_pos h]
    simp only [Option.map_some, decide_eq_true_eq]
    by_cases h2 : c < b
    · rw [if_pos h2]; congr 2; omega
    · rw [if_neg h2]; congr 2; omega
  · rw [if_neg h]
    simp only [Option.map_some, decide_eq_true_eq]
    by_cases h2 : c < a
    · rw [if_pos h2]; congr 2; omega
    · rw [if_neg h2]; congr 2; omega
/-- {a: x, b: y, c: z}[..] of ints -/
theorem ev_dlit3 {a b c x y z k v : Int} (h : valV (mergeK [] [((Sum.inl a : Key), V.int x), (.inl b, .int y), (.inl c, .int z)]) (.inl k) = some (.int v)) (hk : EvD K ta G (.int k)) : EvD K (tDGet (tDisp [(tC (.int a), tC (.int x)), (tC (.int b), tC (.int y)), (tC (.int c), tC (.int z))]) ta) G (.int v) := fun F0 H0 F H σ s Q q => by
  intro p hp
  refine ⟨upd_same, [(.inl a, .int x), (.inl b, .int y), (.inl c, .int z)], rfl, by show 3 ≤ 15; decide, ?_⟩
  have t1 : Step F H F (upd (upd H p (.dK [])) p (.dK (mergeK [] [((Sum.inl a : Key), V.int x), (.inl b, .int y), (.inl c, .int z)]))) := (Step.newP s.fh hp).mutP hp (s.fh.free hp)
  refine hk F0 H0 F _ σ (s.step t1) _ fun w F2 H2 t2 r2 => ?_
  cases r2
  exact ⟨p, .int v, rfl, by
    have := DGet.k (k := (.inl k : Key)) (t2.hh _ _ upd_same)
    rw [h] at this
    exact this, q (.int v) F2 H2 (t1.trans t2) rfl⟩
end
theorem curve_ok {p : Int} (hp : Pm p) {xs : List Int} (hx : ∀ x ∈ xs, 0 ≤ x ∧ x < p) (hl : xs.length = 1 ∨ xs.length = 3 ∨ xs.length = 5) (hc : (lcF p (xs ++ [1]) (pder p (xs ++ [1]))).length = 1) : CvOk (p, xs ++ [1]) := by
  have hpg := hp.ge
  have nr : Nrm p (xs ++ [1]) := ⟨fun x h => by
    rcases List.mem_append.mp h with z | z
    · exact hx x z
    · simp at z; omega, fun _ => by rw [lastI_snoc]; decide⟩
  have nd : Nrm p (pder p (xs ++ [1])) := trim_nrm hp.pos _
  have g := lc_ok hp nr nd
  have G := gcd_ok hp nr nd (.inl (by simp))
  refine ⟨hp, nr, by simp; omega, by rw [lastI_snoc], ?_⟩
  obtain ⟨u, v, hb⟩ := g.bz
  obtain ⟨x, nx, h1⟩ := G.da
  obtain ⟨y, ny, h2⟩ := G.db
  have hne : lcF p (xs ++ [1]) (pder p (xs ++ [1])) ≠ [] := fun z => by rw [z] at hc; simp at hc
  have hd : Dvd p (pgcd p (xs ++ [1]) (pder p (xs ++ [1]))) (lcF p (xs ++ [1]) (pder p (xs ++ [1]))) := by
    refine ⟨padd p (pmul p u x) (pmul p v y), trim_nrm hp.pos _, ?_⟩
    rw [hb, h1, h2]
    simp only [ps_padd, ps_pmul]
    grind
  have := dvd_len hp g.nr G.nr hne hd
  rw [hc] at this
  have hm := G.mo
  have hn := G.ne
  show pgcd p (xs ++ [1]) (pder p (xs ++ [1])) = [1]
  generalize pgcd p (xs ++ [1]) (pder p (xs ++ [1])) = w at *
  match w, hn with
  | [a], _ =>
    have : a = 1 := hm
    rw [this]
  | a :: b :: r, _ => simp at this
theorem curve0 {p : Int} (h : p = 3 ∨ p = 5 ∨ p = 7) : CvOk (p, [0, 1]) := by
  have hp : Pm p := by unfold Pm; omega
  have := hp.ge
  refine ⟨hp, ⟨fun x hx => by simp at hx; omega, fun _ => by show (1 : Int) ≠ 0; decide⟩, .inl rfl, rfl, ?_⟩
  rcases h with rfl | rfl | rfl <;> decide +kernel
/-! ### a def that hands back a new list of its own -/
def spN (K : Fg) (P : List D → List D → Prop) : Sp := fun vs H Q _ => ∃ F ds, Same F H ∧ Reps K F ds vs ∧ (∃ es, P ds es) ∧ ∀ es p us F' H', P ds es → Step F H F' H' → H p = none → F' p = none → H' p = some (.lst us) → Reps K F' es us → Q (.ref p) H'
theorem spN_len {K : Fg} {P : List D → List D → Prop} {n : Nat} (h : ∀ ds d, P ds d → ds.length = n) : ∀ (vs : List V) (H : Hp) (Q : VK) (E : XK), spN K P vs H Q E → vs.length = n := fun vs H Q E ⟨F, ds, _, r, ⟨d, p⟩, _⟩ => by rw [r.len, h ds d p]
def p__law_generator (ds : List D) (es : List D) : Prop := ∃ (ns : List Int) (x s : Int), ds = [.scr ns, .int 0] ∧ es = [.int x, .int s, .int 0] ∧ 0 ≤ x ∧ 0 ≤ s ∧ s < 2 ^ 32
/-- what is drawn from a new list is done -/
theorem ev_gen {K : Fg} {G : Ctx} {tr : TA} {ds : List D} {k : Nat} {P : List D → D → Prop} {E E' : XK} {d : D} (hk : k ≤ 2 ^ 30) (h : EvA K tr G ds) (hp : ∃ es, p__law_generator ds es) (hP : P [] d) (hu : ∀ e, P [] e → e = d) : EvD K (tCall (spG K k P) [] E (tCons (tCall (spN K p__law_generator) [] E' tr) tNil)) G d := fun F0 H0 F H σ s Q q => by
  refine h F0 H0 F H σ s _ fun vs F1 H1 t1 r1 => ⟨F1, ds, t1.fh, by rw [List.append_nil]; exact r1, hp, fun es p us F2 H2 pe t2 hp2 hf2 hu2 r2 => ?_⟩
  obtain ⟨ns, x, s0, _, rfl, h1, h2, h3⟩ := pe
  obtain ⟨v1, w1, rfl, e1, v2, w2, rfl, e2, v3, w3, rfl, e3, e4⟩ := r2
  cases e1
  cases e2
  cases e3
  cases e4
  have fd : Same F2 (del H2 p) := fun b o e => by rw [del_ne (ne_of_none e hf2)]; exact t2.fh b o e
  refine ⟨F2, p, [], [], 0, rfl, fd, ⟨x, s0, 0, hu2, h1, h2, h3, by decide, by decide⟩, by omega, rfl, ⟨d, hP⟩, fun v e F3 H3 pd t3 g3 r3 => ?_⟩
  rw [hu e pd] at r3
  have tt := t1.trans t2
  have hpH : H p = none := t1.hh.free hp2
  refine q v F3 H3 ⟨tt.ff.trans t3.ff, fun b o e => ?_, t3.fh.trans del_same, fun a m => ?_⟩ r3
  · have nb := ne_of_none e hpH
    exact del_same _ _ (t3.hh b o (by rw [del_ne nb]; exact tt.hh b o e))
  · rcases t3.nw a m with z | z
    · exact tt.nw a z
    · by_cases y : a = p
      · subst y; exact .inr hpH
      · rw [del_ne y] at z
        exact .inr (tt.hh.free z)
theorem StG.imp {K : Fg} {g : Addr} {i : Nat} {t : TS} {G : Ctx} {n N : Nat} {R R' : D → Prop} (h : StG K g i t G n N R) (k : ∀ d, R d → R' d) : StG K g i t G n N R' := fun F0 H0 F H σ E s hi hg q => h F0 H0 F H σ E s hi hg fun v d F' H' r => q v d F' H' (k d r)
def RpI (c : Cur) (s : Tri × Tri × Int) : Prop := 0 ≤ s.2.2 ∧ s.2.2 ≤ 20 ∧ ∃ a b : Nat, FnIn c s.1 a ∧ FnIn c s.2.1 b ∧ (a + 9) + s.2.2.toNat * (b + 9) ≤ 9000
theorem rp_turn {c : Cur} (cv : CvOk c) : ∀ s, RpI c s → rpC s = true → RpI c (rpS c s) ∧ (rpS c s).2.2.toNat < s.2.2.toNat := by
  rintro ⟨A, B, m⟩ ⟨i0, i1, a, b, hA, hB, hab⟩ hc
  simp only at i0 i1 hA hB hab
  have hm : 0 < m := by simpa [rpC] using hc
  have ht := fTimes_in cv hA hB
  have ht2 := fTimes_in cv hB hB
  refine ⟨⟨by show 0 ≤ m / 2; omega, by show m / 2 ≤ 20; omega, ?_⟩, by show (m / 2).toNat < m.toNat; omega⟩
  by_cases z : m % 2 = 1
  · refine ⟨a + b + 9, b + b + 9, by show FnIn c (if m % 2 = 1 then fTimes c A B else A) _; rw [if_pos z]; exact ht, ht2, ?_⟩
    show (a + b + 9 + 9) + (m / 2).toNat * (b + b + 9 + 9) ≤ 9000
    have e : m.toNat = 2 * (m / 2).toNat + 1 := by omega
    rw [e, Nat.add_mul, Nat.mul_assoc] at hab
    rw [show b + b + 9 + 9 = 2 * (b + 9) by omega, Nat.mul_left_comm]
    omega
  · refine ⟨a, b + b + 9, by show FnIn c (if m % 2 = 1 then fTimes c A B else A) _; rw [if_neg z]; exact hA, ht2, ?_⟩
    show (a + 9) + (m / 2).toNat * (b + b + 9 + 9) ≤ 9000
    have e : m.toNat = 2 * (m / 2).toNat := by omega
    rw [e, Nat.mul_assoc] at hab
    rw [show b + b + 9 + 9 = 2 * (b + 9) by omega, Nat.mul_left_comm]
    omega
theorem fRaised_in {c : Cur} {T : Tri} {n : Int} (cv : CvOk c) (hT : FnIn c T 400) (h0 : 0 ≤ n) (h1 : n ≤ 20) : FnIn c (fRaised c T n) 9000 := by
  have st : RpI c (fOne c, T, n) := ⟨h0, h1, 2, 400, fOne_in cv, hT, by show (2 + 9) + n.toNat * (400 + 9) ≤ 9000; omega⟩
  obtain ⟨⟨_, _, a, b, hA, hB, hab⟩, _⟩ := while_inv (c := rpC) (f := rpS c) (Iv := RpI c) (μ := fun s => s.2.2.toNat) (rp_turn cv) n.toNat (fOne c, T, n) st (Nat.le_refl _)
  exact FnIn.mono hA (by omega)
def p_law (ds : List D) (d : D) : Prop := ∃ ns : List Int, ds = [.scr ns] ∧ True ∧ d = .bl true
theorem ints_inj : ∀ {a b : List Int}, a.map D.int = b.map D.int → a = b
  | [], [], _ => rfl
  | [], _ :: _, h => by simp at h
  | _ :: _, [], h => by simp at h
  | x :: a, y :: b, h => by
    have h1 := List.cons.inj h
    have h2 : x = y := D.int.inj h1.1
    rw [h2, ints_inj h1.2]
theorem told_inj {c c' : Cur} (h : toldD c = toldD c') : c = c' := by
  obtain ⟨p, f⟩ := c
  obtain ⟨p', f'⟩ := c'
  have h1 := D.tup.inj h
  have h2 := List.cons.inj h1
  have h3 : p = p' := D.int.inj h2.1
  have h4 := D.lst.inj (List.cons.inj h2.2).1
  have h5 : f = f' := ints_inj h4
  rw [h3, h5]
end Cw
set_option maxHeartbeats 4000000
namespace Cw
open PySem PySem.Spec PyProof.Rows L2
open C8 (Cal Met Mak pe_c pe_mk pe_mt pe_mt0 pe_gc InsC call_isC)
def top (i : Nat) : Stmt := PySem.Challenge.pw_curvewords_k75_whole_slopes_or_none.main.body.getD i (.Pass ⟨0, 0, 0, 0⟩)
structure Fx (K : Fg) (mg : Str → Option Value) : Prop where
  b_ValueError : mg "ValueError" = none
  b_abs : mg "abs" = none
  b_bool : mg "bool" = none
  b_enumerate : mg "enumerate" = none
  b_int : mg "int" = none
  b_isinstance : mg "isinstance" = none
  b_len : mg "len" = none
  b_list : mg "list" = none
  b_max : mg "max" = none
  b_min : mg "min" = none
  b_range : mg "range" = none
  b_repr : mg "repr" = none
  b_sum : mg "sum" = none
  b_super : mg "super" = none
  g_PRIMES : ∃ u, mg "PRIMES" = some u ∧ RelV (.ref (He.ga K "PRIMES")) u
  t_PRIMES : ∀ H, SqT K H (He.ga K "PRIMES") [V.int 3, V.int 5, V.int 7, V.int 11, V.int 13]
  g_MOST_POWER : ∃ u, mg "MOST_POWER" = some u ∧ RelV (.int 60) u
  g_MOST_EXPONENT : ∃ u, mg "MOST_EXPONENT" = some u ∧ RelV (.int 20) u
  g_Curve : ∃ u, mg "Curve" = some u ∧ RelV (.ref (He.ga K "Curve")) u
  ic_Curve : C8.InsC K (He.ga K "Curve")
  n_Curve_polynomial : NoAttr K (He.ga K "Curve") "_polynomial"
  n_Curve_prime : NoAttr K (He.ga K "Curve") "_prime"
  g_Function : ∃ u, mg "Function" = some u ∧ RelV (.ref (He.ga K "Function")) u
  ic_Function : C8.InsC K (He.ga K "Function")
  n_Function_curve : NoAttr K (He.ga K "Function") "_curve"
  n_Function_parts : NoAttr K (He.ga K "Function") "_parts"
end Cw
set_option maxHeartbeats 4000000
namespace Cw
open PySem PySem.Spec PyProof.Rows L2
open C8 (Cal Met Mak pe_c pe_mk pe_mt pe_mt0 pe_gc InsC call_isC)
section
variable {P : Program} {w : World} {K : Fg} {mg : Str → Option Value} {base : Heap} {f : Addr} {fd : FuncData}
abbrev s_inverse : Stmt := top 18
abbrev nm_inverse : List Str := ["p", "number", "low"]
theorem sc_inverse : FnScope nm_inverse ["p", "number"] (defScope s_inverse) := ⟨rfl, rfl, rfl, by decide +kernel, rfl, by decide +kernel, by decide +kernel⟩
theorem ok_inverse (fx : Fx K mg) (F : FunD K "inverse" "inverse" (defArgs s_inverse) (defBody s_inverse) (defScope s_inverse) [] [] f fd) : FnOk P w K mg base CX0 1 f fd ["p", "number"] (spD K p_inverse) := by
  refine F.ok sc_inverse (spD_len (n := 2) ?_) (fun cdv A outer s H vs Q E hr h => ⟨_, PSs.nox ((pss_one (ps_ret (pe_ix (ixl K) (pe_lc (own := [("low", 2)]) rfl sc_inverse.nd (pi_range2 (by rfl) fx.b_range (pa_cons pe_int (pa_cons (pv 0) pa_nil))) (blkOk_by (N := nm_inverse) (sc := defScope s_inverse) (by decide +kernel)) (fun _ _ _ _ _ => (pg_name (i := 2) sc_inverse.nd rfl (by first | exact Or.inl rfl | exact Or.inr rfl))) (fun _ _ _ _ _ => (pts_one (pt_cmpR op_eq (pe_op op_mod (pe_op op_mul (pv 2) (pv 1)) (pv 0)) pe_int (nomark _)))) (fun _ _ _ _ _ => (pv 2))) pe_int (fun _ _ => rfl))))), run_def (N := nm_inverse) (fun ds d p => ?_) vs H Q E h⟩)
  · rintro ds d ⟨_, _, rfl, _⟩; rfl
  ·
    obtain ⟨p, n, rfl, hp, hn, hb, rfl⟩ := p
    have hLM : LM = 1000000 := rfl
    show StD K _ [.val (.int p), .val (.int n), .un] _
    have hne : ((rangeI 1 (p - 1).toNat).filter fun low => decide (low * n % p = 1)) ≠ [] := inv_ne hp hn
    refine st_ret ((ev_ixI (by decide) (by have := List.length_pos_iff.mpr hne; rw [List.map_id'] ; omega) (ev_pub (en_lcF D.int (fun low => decide (low * n % p = 1)) (fun low => low) (by rw [rangeI_len]; have := hp.le; exact LMs (by omega)) (it_rng2 (m := 1) (n := p) (by have := hp.le; have := hp.pos; omega) ev_int (ev_var rfl)) fun pre x post e => ⟨_, _, tg_name, fun _ h => h, eb_test (ev_eqI (ev_mod hp.pos (ev_mulS (.inr hb) (ev_var rfl) (ev_var rfl)) (ev_var rfl)) ev_int), fun _ => ev_var rfl⟩)) ev_int).cast ?_)
    rw [List.map_id']
    unfold pinv
    cases hf : ((rangeI 1 (p - 1).toNat).filter fun low => decide (low * n % p = 1)) with
    | nil => exact absurd hf hne
    | cons x xs => rfl
abbrev s_trimmed : Stmt := top 19
abbrev nm_trimmed : List Str := ["p", "numbers", "found", "number"]
theorem sc_trimmed : FnScope nm_trimmed ["p", "numbers"] (defScope s_trimmed) := ⟨rfl, rfl, rfl, by decide +kernel, rfl, by decide +kernel, by decide +kernel⟩
theorem ok_trimmed (fx : Fx K mg) (F : FunD K "trimmed" "trimmed" (defArgs s_trimmed) (defBody s_trimmed) (defScope s_trimmed) [] [] f fd) : FnOk P w K mg base CX0 1 f fd ["p", "numbers"] (spD K p_trimmed) := by
  refine F.ok sc_trimmed (spD_len (n := 2) ?_) (fun cdv A outer s H vs Q E hr h => ⟨_, PSs.nox ((pss_cons (ps_setLc (i := 2) (own := [("number", 3)]) rfl sc_trimmed.nd rfl rfl (sw_true rfl rfl rfl (by decide +kernel)) (pil K (pv 1)) (blkOk_by (N := nm_trimmed) (sc := defScope s_trimmed) (by decide +kernel)) (fun _ _ _ _ _ => (pg_name (i := 3) sc_trimmed.nd rfl (by first | exact Or.inl rfl | exact Or.inr rfl))) (fun _ _ _ _ _ => pts_nil) (fun _ _ _ _ _ => (pe_op op_mod (pe_callTy call_int1 (by rfl) fx.b_int (by decide +kernel) (pa_cons (pv 3) pa_nil)) (pv 0))))
      (pss_cons (ps_while PassesOwn.never (PW.pt (pw_and (pt_cmpR (opNe K hr.units) (pv 2) (pe_lst pa_nil) (nomark _)) (pw_and1 (pt_cmpR op_eq (pe_ix (ixl K) (pv 2) (pe_un un_neg pe_int) (fun _ _ => rfl)) pe_int (nomark _)))))
      (pss_one (ps_expr (pe_bm0 PySem.F.plainAttrs_list PySem.F.slot_list_pop PySem.F.type_list_pop mt_pop (pv 2)))))
      (pss_one (ps_ret (pv 2)))))), run_def (N := nm_trimmed) (fun ds d p => ?_) vs H Q E h⟩)
  · rintro ds d ⟨_, _, rfl, _⟩; rfl
  ·
    obtain ⟨p, ns, rfl, hp, hl, rfl⟩ := p
    show StD K _ [.val (.int p), .val (inD ns), .un, .un] _
    refine st_seq (st_setN (en_lcT D.int (fun x => x % p) (Nat.le_trans hl (by decide)) (it_list (ev_var rfl)) fun pre x post e => ⟨_, _, tg_name, fun _ h => h, ev_mod hp (ev_intc (ev_var rfl)) (ev_var rfl)⟩)) ?_
    refine st_seq (st_while (S := List Int) (Gs := fun l => [.val (.int p), .val (inD ns), .own (l.map D.int), .un]) (Iv := fun _ => True) (μ := List.length) (f := List.dropLast) (cd := fun l => !decide (l = []) && decide (lastI l = 0)) (2 * LM) (s0 := ns.map (· % p)) (by simpa using hl) trivial ?c ?d) ?_
    case c =>
      intro l _
      exact eb_and (eb_test (ev_ne0 (eh_own rfl))) fun h => eb_test (ev_eqI (ev_ixO rfl (at_last (by simpa using h)) ev_m1) ev_int)
    case d =>
      intro l _ h
      have hne : l ≠ [] := by
        simp at h
        exact h.1
      refine ⟨(st_popI (K := K) (G := [.val (.int p), .val (inD ns), .own (l.map D.int), .un]) (i := 2) rfl hne).lp, trivial, ?_⟩
      rw [List.length_dropLast]
      have := List.length_pos_iff.mpr hne
      omega
    rw [drop_loop _ _ (by simpa using hl)]
    exact st_retO rfl
abbrev s_added : Stmt := top 20
abbrev nm_added : List Str := ["p", "one", "other", "size", "low", "high", "at"]
theorem sc_added : FnScope nm_added ["p", "one", "other"] (defScope s_added) := ⟨rfl, rfl, rfl, by decide +kernel, rfl, by decide +kernel, by decide +kernel⟩
theorem ok_added (fx : Fx K mg) (c_trimmed : Cal P w K mg base 1 "trimmed" (spD K p_trimmed) []) (F : FunD K "added" "added" (defArgs s_added) (defBody s_added) (defScope s_added) [] [] f fd) : FnOk P w K mg base CX0 2 f fd ["p", "one", "other"] (spD K p_added) := by
  refine F.ok sc_added (spD_len (n := 3) ?_) (fun cdv A outer s H vs Q E hr h => ⟨_, PSs.nox ((pss_cons (ps_set (i := 3) sc_added.nd rfl (by first | exact Or.inl rfl | exact Or.inr rfl) (pe_callB (call_max2 rfl) (by rfl) fx.b_max (by decide +kernel) (pa_cons (pe_callB (lenS K) (by rfl) fx.b_len (by decide +kernel) (pa_cons (pv 1) pa_nil)) (pa_cons (pe_callB (lenS K) (by rfl) fx.b_len (by decide +kernel) (pa_cons (pv 2) pa_nil)) pa_nil))))
      (pss_cons (ps_asg (pe_tup (pa_cons (pe_op op_cat (pv 1) (pe_op op_rep (pe_lst (pa_cons pe_int pa_nil)) (pe_op op_sub (pv 3) (pe_callB (lenS K) (by rfl) fx.b_len (by decide +kernel) (pa_cons (pv 1) pa_nil))))) (pa_cons (pe_op op_cat (pv 2) (pe_op op_rep (pe_lst (pa_cons pe_int pa_nil)) (pe_op op_sub (pv 3) (pe_callB (lenS K) (by rfl) fx.b_len (by decide +kernel) (pa_cons (pv 2) pa_nil))))) pa_nil))) (pgt (n := 2) K rfl (pgs_cons (pg_name (i := 4) sc_added.nd rfl (by first | exact Or.inl rfl | exact Or.inr rfl)) (pgs_cons (pg_name (i := 5) sc_added.nd rfl (by first | exact Or.inl rfl | exact Or.inr rfl)) pgs_nil))))
      (pss_one (ps_ret (pe_c c_trimmed hr (by decide) rfl (pa_cons (pv 0) (pa_cons (pe_lc (own := [("at", 6)]) rfl sc_added.nd (pi_range1 (by rfl) fx.b_range (pa_cons (pv 3) pa_nil)) (blkOk_by (N := nm_added) (sc := defScope s_added) (by decide +kernel)) (fun _ _ _ _ _ => (pg_name (i := 6) sc_added.nd rfl (by first | exact Or.inl rfl | exact Or.inr rfl))) (fun _ _ _ _ _ => pts_nil) (fun _ _ _ _ _ => (pe_op op_add (pe_ix (ixl K) (pv 4) (pv 6) (fun _ _ => rfl)) (pe_ix (ixl K) (pv 5) (pv 6) (fun _ _ => rfl))))) pa_nil)))))))), run_def (N := nm_added) (fun ds d p => ?_) vs H Q E h⟩)
  · rintro ds d ⟨_, _, _, rfl, _⟩; rfl
  ·
    obtain ⟨p, a, b, rfl, hp, ha, hb, rfl⟩ := p
    have hLM : LM = 1000000 := rfl
    show StD K _ [.val (.int p), .val (inD a), .val (inD b), .un, .un, .un, .un] _
    refine st_seq (st_set (ev_max (ev_lenL (ev_var rfl).h) (ev_lenL (ev_var rfl).h))) ?_
    have pad : ∀ (l : List Int), l.length ≤ LM → l.length ≤ max a.length b.length → (l ++ List.replicate (max (a.length : Int) b.length - l.length).toNat 0).length = max a.length b.length := fun l _ h => by
      rw [List.length_append, List.length_replicate]; omega
    have cfp : ∀ (l : List Int) (n i : Nat), cf (l ++ List.replicate n 0) i = cf l i := fun l n i => by
      rw [cf_app]; split
      · rfl
      · rw [cf_rep, cf_out (by omega)]
    refine st_seq (st_parT (em_v (ev_pub (en_catT (by rw [List.length_replicate]; omega) (ev_var rfl) (ev_pub (en_repT (by omega) (ev_pub (en_lst1 ev_int)) (ev_sub (ev_var rfl) (ev_lenL (ev_var rfl).h))))))) (em_v (ev_pub (en_catT (by rw [List.length_replicate]; omega) (ev_var rfl) (ev_pub (en_repT (by omega) (ev_pub (en_lst1 ev_int)) (ev_sub (ev_var rfl) (ev_lenL (ev_var rfl).h))))))) (fun h => nomatch h) (fun h => nomatch h)) ?_
    have pa := pad a ha (by omega)
    have pb := pad b hb (by omega)
    refine st_ret (ev_call (ea2 (ev_var rfl) (ev_pub (en_lcT D.int (fun k : Int => cf a k.toNat + cf b k.toNat) (by rw [rangeI_len]; exact LMs (by omega)) (it_rng1 (n := max (a.length : Int) b.length) (by omega) (ev_var rfl)) fun pre x post e => ⟨_, _, tg_name, fun _ h => h, (ev_add (ev_ixI (by have := rangeI_mem (mem_mid e); omega) (by have := rangeI_mem (mem_mid e); rw [pa]; omega) (ev_var rfl) (ev_var rfl)) (ev_ixI (by have := rangeI_mem (mem_mid e); omega) (by have := rangeI_mem (mem_mid e); rw [pb]; omega) (ev_var rfl) (ev_var rfl))).cast (by rw [cfp, cfp])⟩))) ⟨_, _, rfl, hp, by rw [List.length_map, rangeI_len]; omega, ?_⟩)
    unfold padd mk
    rw [rangeI_map, show (max (a.length : Int) b.length).toNat = max a.length b.length by omega]
    rfl
abbrev s_negated : Stmt := top 21
abbrev nm_negated : List Str := ["p", "one", "number"]
theorem sc_negated : FnScope nm_negated ["p", "one"] (defScope s_negated) := ⟨rfl, rfl, rfl, by decide +kernel, rfl, by decide +kernel, by decide +kernel⟩
theorem ok_negated (fx : Fx K mg) (c_trimmed : Cal P w K mg base 1 "trimmed" (spD K p_trimmed) []) (F : FunD K "negated" "negated" (defArgs s_negated) (defBody s_negated) (defScope s_negated) [] [] f fd) : FnOk P w K mg base CX0 2 f fd ["p", "one"] (spD K p_negated) := by
  refine F.ok sc_negated (spD_len (n := 2) ?_) (fun cdv A outer s H vs Q E hr h => ⟨_, PSs.nox ((pss_one (ps_ret (pe_c c_trimmed hr (by decide) rfl (pa_cons (pv 0) (pa_cons (pe_lc (own := [("number", 2)]) rfl sc_negated.nd (pil K (pv 1)) (blkOk_by (N := nm_negated) (sc := defScope s_negated) (by decide +kernel)) (fun _ _ _ _ _ => (pg_name (i := 2) sc_negated.nd rfl (by first | exact Or.inl rfl | exact Or.inr rfl))) (fun _ _ _ _ _ => pts_nil) (fun _ _ _ _ _ => (pe_op op_sub pe_int (pv 2)))) pa_nil)))))), run_def (N := nm_negated) (fun ds d p => ?_) vs H Q E h⟩)
  · rintro ds d ⟨_, _, rfl, _⟩; rfl
  ·
    obtain ⟨p, a, rfl, hp, hl, rfl⟩ := p
    show StD K _ [.val (.int p), .val (inD a), .un] _
    exact st_ret (ev_call (ea2 (ev_var rfl) (ev_pub (en_lcT D.int (fun x => 0 - x) (LMs (by omega)) (it_list (ev_var rfl)) fun _ _ _ _ => ⟨_, _, tg_name, fun _ h => h, ev_sub ev_int (ev_var rfl)⟩))) ⟨_, _, rfl, hp, by rw [List.length_map]; omega, rfl⟩)
abbrev s_lessened : Stmt := top 22
abbrev nm_lessened : List Str := ["p", "one", "other"]
theorem sc_lessened : FnScope nm_lessened ["p", "one", "other"] (defScope s_lessened) := ⟨rfl, rfl, rfl, by decide +kernel, rfl, by decide +kernel, by decide +kernel⟩
theorem ok_lessened (fx : Fx K mg) (c_added : Cal P w K mg base 2 "added" (spD K p_added) []) (c_negated : Cal P w K mg base 2 "negated" (spD K p_negated) []) (F : FunD K "lessened" "lessened" (defArgs s_lessened) (defBody s_lessened) (defScope s_lessened) [] [] f fd) : FnOk P w K mg base CX0 3 f fd ["p", "one", "other"] (spD K p_lessened) := by
  refine F.ok sc_lessened (spD_len (n := 3) ?_) (fun cdv A outer s H vs Q E hr h => ⟨_, PSs.nox ((pss_one (ps_ret (pe_c c_added hr (by decide) rfl (pa_cons (pv 0) (pa_cons (pv 1) (pa_cons (pe_c c_negated hr (by decide) rfl (pa_cons (pv 0) (pa_cons (pv 2) pa_nil))) pa_nil))))))), run_def (N := nm_lessened) (fun ds d p => ?_) vs H Q E h⟩)
  · rintro ds d ⟨_, _, _, rfl, _⟩; rfl
  ·
    obtain ⟨p, a, b, rfl, hp, ha, hb, rfl⟩ := p
    show StD K _ [.val (.int p), .val (inD a), .val (inD b)] _
    exact st_ret (ev_call (ea3 (ev_var rfl) (ev_var rfl) (ev_call (ea2 (ev_var rfl) (ev_var rfl)) ⟨_, _, rfl, hp, hb, rfl⟩)) ⟨_, _, _, rfl, hp, ha, Nat.le_trans pneg_len hb, rfl⟩)
abbrev s_scaled : Stmt := top 23
abbrev nm_scaled : List Str := ["p", "one", "number", "item"]
theorem sc_scaled : FnScope nm_scaled ["p", "one", "number"] (defScope s_scaled) := ⟨rfl, rfl, rfl, by decide +kernel, rfl, by decide +kernel, by decide +kernel⟩
theorem ok_scaled (fx : Fx K mg) (c_trimmed : Cal P w K mg base 1 "trimmed" (spD K p_trimmed) []) (F : FunD K "scaled" "scaled" (defArgs s_scaled) (defBody s_scaled) (defScope s_scaled) [] [] f fd) : FnOk P w K mg base CX0 2 f fd ["p", "one", "number"] (spD K p_scaled) := by
  refine F.ok sc_scaled (spD_len (n := 3) ?_) (fun cdv A outer s H vs Q E hr h => ⟨_, PSs.nox ((pss_one (ps_ret (pe_c c_trimmed hr (by decide) rfl (pa_cons (pv 0) (pa_cons (pe_lc (own := [("item", 3)]) rfl sc_scaled.nd (pil K (pv 1)) (blkOk_by (N := nm_scaled) (sc := defScope s_scaled) (by decide +kernel)) (fun _ _ _ _ _ => (pg_name (i := 3) sc_scaled.nd rfl (by first | exact Or.inl rfl | exact Or.inr rfl))) (fun _ _ _ _ _ => pts_nil) (fun _ _ _ _ _ => (pe_op op_mul (pv 3) (pv 2)))) pa_nil)))))), run_def (N := nm_scaled) (fun ds d p => ?_) vs H Q E h⟩)
  · rintro ds d ⟨_, _, _, rfl, _⟩; rfl
  ·
    obtain ⟨p, a, n, rfl, hp, hl, hn, rfl⟩ := p
    show StD K _ [.val (.int p), .val (inD a), .val (.int n), .un] _
    exact st_ret (ev_call (ea2 (ev_var rfl) (ev_pub (en_lcT D.int (fun x => x * n) (LMs (by omega)) (it_list (ev_var rfl)) fun _ _ _ _ => ⟨_, _, tg_name, fun _ h => h, ev_mulS (.inr hn) (ev_var rfl) (ev_var rfl)⟩))) ⟨_, _, rfl, hp, by rw [List.length_map]; omega, rfl⟩)
abbrev s_multiplied : Stmt := top 24
abbrev nm_multiplied : List Str := ["p", "one", "other", "found", "at", "low", "place", "high"]
theorem sc_multiplied : FnScope nm_multiplied ["p", "one", "other"] (defScope s_multiplied) := ⟨rfl, rfl, rfl, by decide +kernel, rfl, by decide +kernel, by decide +kernel⟩
theorem ok_multiplied (fx : Fx K mg) (c_trimmed : Cal P w K mg base 1 "trimmed" (spD K p_trimmed) []) (F : FunD K "multiplied" "multiplied" (defArgs s_multiplied) (defBody s_multiplied) (defScope s_multiplied) [] [] f fd) : FnOk P w K mg base CX0 2 f fd ["p", "one", "other"] (spD K p_multiplied) := by
  refine F.ok sc_multiplied (spD_len (n := 3) ?_) (fun cdv A outer s H vs Q E hr h => ⟨_, PSs.nox ((pss_cons (ps_set (i := 3) sc_multiplied.nd rfl (by first | exact Or.inl rfl | exact Or.inr rfl) (pe_op op_rep (pe_lst (pa_cons pe_int pa_nil)) (pe_op op_add (pe_callB (lenS K) (by rfl) fx.b_len (by decide +kernel) (pa_cons (pv 1) pa_nil)) (pe_callB (lenS K) (by rfl) fx.b_len (by decide +kernel) (pa_cons (pv 2) pa_nil)))))
      (pss_cons (ps_for PassesOwn.never rfl (pien K (by rfl) fx.b_enumerate (pa_cons (pv 1) pa_nil)) (pgt (n := 2) K rfl (pgs_cons (pg_name (i := 4) sc_multiplied.nd rfl (by first | exact Or.inl rfl | exact Or.inr rfl)) (pgs_cons (pg_name (i := 5) sc_multiplied.nd rfl (by first | exact Or.inl rfl | exact Or.inr rfl)) pgs_nil)))
      (pss_one (ps_for PassesOwn.never rfl (pien K (by rfl) fx.b_enumerate (pa_cons (pv 2) pa_nil)) (pgt (n := 2) K rfl (pgs_cons (pg_name (i := 6) sc_multiplied.nd rfl (by first | exact Or.inl rfl | exact Or.inr rfl)) (pgs_cons (pg_name (i := 7) sc_multiplied.nd rfl (by first | exact Or.inl rfl | exact Or.inr rfl)) pgs_nil)))
      (pss_one (ps_asg (pe_op op_add (pe_ix (ixl K) (pv 3) (pe_op op_add (pv 4) (pv 6)) (fun _ _ => rfl)) (pe_op op_mul (pv 5) (pv 7))) (pg_sub (pv 3) (pe_op op_add (pv 4) (pv 6)) set_list))))))
      (pss_one (ps_ret (pe_c c_trimmed hr (by decide) rfl (pa_cons (pv 0) (pa_cons (pv 3) pa_nil)))))))), run_def (N := nm_multiplied) (fun ds d p => ?_) vs H Q E h⟩)
  · rintro ds d ⟨_, _, _, rfl, _⟩; rfl
  ·
    obtain ⟨p, a, b, rfl, hp, ha, hb, sa, rfl⟩ := p
    have hLM : LM = 1000000 := rfl
    show StD K _ [.val (.int p), .val (inD a), .val (inD b), .un, .un, .un, .un, .un] _
    refine st_seq (st_setN (en_repT (by omega) (ev_pub (en_lst1 ev_int)) (ev_add (ev_lenL (ev_var rfl).h) (ev_lenL (ev_var rfl).h)))) ?_
    refine st_seq (st_for (S := List Int) (as := enumI a) (Gs := fun l => [.val (.int p), .val (inD a), .val (inD b), .own (l.map D.int), .un, .un, .un, .un]) (step := fun l q => addAt q.1 q.2 b l) (s0 := List.replicate (a.length + b.length) 0) (it_enum (ev_var rfl)) fun pre x post e => ?_) ?_
    · obtain ⟨i, x⟩ := x
      have hx := enumI_mem (mem_mid e)
      have hl : (pre.foldl (fun l q => addAt q.1 q.2 b l) (List.replicate (a.length + b.length) 0)).length = a.length + b.length := by
        rw [foldl_len _ (fun _ _ => addAt_len)]; simp
      refine ⟨_, _, tg_tup (tgs_cons tg_name (tgs_cons tg_name tgs_nil)) rfl, ?_⟩
      generalize hs : pre.foldl (fun l q => addAt q.1 q.2 b l) (List.replicate (a.length + b.length) 0) = l0 at hl ⊢
      refine StD.lp (StD.weak (st_for (S := List Int) (as := enumI b) (Gs := fun l => [.val (.int p), .val (inD a), .val (inD b), .own (l.map D.int), .val (.int i), .val (.int x), .un, .un]) (step := fun l q => l.set (i + q.1).toNat (cf l (i + q.1).toNat + x * q.2)) (s0 := l0) (it_enum (ev_var rfl)) fun pre2 y post2 e2 => ?_) (.eq (.eq (.eq (.eq (.un (.un (.eq (.eq .nil)))))))))
      obtain ⟨j, y⟩ := y
      have hy := enumI_mem (mem_mid e2)
      have hl2 : (pre2.foldl (fun l q => l.set (i + q.1).toNat (cf l (i + q.1).toNat + x * q.2)) l0).length = a.length + b.length := by
        rw [foldl_len _ (fun _ _ => by simp), hl]
      generalize hs2 : pre2.foldl (fun l q => l.set (i + q.1).toNat (cf l (i + q.1).toNat + x * q.2)) l0 = l1 at hl2 ⊢
      refine ⟨_, _, tg_tup (tgs_cons tg_name (tgs_cons tg_name tgs_nil)) rfl, ?_⟩
      have sx := sa x hx.2.2
      exact StD.lp (StD.weak (st_setL (l := l1) (i := 3) rfl (by omega) (by omega) (ev_add (ev_ixIO (l := l1) rfl (by omega) (by omega) (ev_add (ev_var rfl) (ev_var rfl))) (ev_mulS (.inl sx) (ev_var rfl) (ev_var rfl))) (ev_add (ev_var rfl) (ev_var rfl))) (.eq (.eq (.eq (.eq (.eq (.eq (.un (.un .nil)))))))))
    exact st_pub (i := 3) rfl (st_ret (ev_call (ea2 (ev_var rfl) (ev_var rfl)) ⟨_, _, rfl, hp, by show (mulF a b).length ≤ _; rw [mulF_len]; omega, rfl⟩))
abbrev s_power_of_polys : Stmt := top 25
abbrev nm_power_of_polys : List Str := ["p", "one", "count", "found", "turn"]
theorem sc_power_of_polys : FnScope nm_power_of_polys ["p", "one", "count"] (defScope s_power_of_polys) := ⟨rfl, rfl, rfl, by decide +kernel, rfl, by decide +kernel, by decide +kernel⟩
theorem ok_power_of_polys (fx : Fx K mg) (c_multiplied : Cal P w K mg base 2 "multiplied" (spD K p_multiplied) []) (F : FunD K "power_of" "power_of" (defArgs s_power_of_polys) (defBody s_power_of_polys) (defScope s_power_of_polys) [] [] f fd) : FnOk P w K mg base CX0 3 f fd ["p", "one", "count"] (spD K p_power_of) := by
  refine F.ok sc_power_of_polys (spD_len (n := 3) ?_) (fun cdv A outer s H vs Q E hr h => ⟨_, PSs.nox ((pss_cons (ps_set (i := 3) sc_power_of_polys.nd rfl (by first | exact Or.inl rfl | exact Or.inr rfl) (pe_lst (pa_cons pe_int pa_nil)))
      (pss_cons (ps_for PassesOwn.never rfl (pi_range1 (by rfl) fx.b_range (pa_cons (pv 2) pa_nil)) (pg_name (i := 4) sc_power_of_polys.nd rfl (by first | exact Or.inl rfl | exact Or.inr rfl))
      (pss_one (ps_set (i := 3) sc_power_of_polys.nd rfl (by first | exact Or.inl rfl | exact Or.inr rfl) (pe_c c_multiplied hr (by decide) rfl (pa_cons (pv 0) (pa_cons (pv 3) (pa_cons (pv 1) pa_nil)))))))
      (pss_one (ps_ret (pv 3)))))), run_def (N := nm_power_of_polys) (fun ds d p => ?_) vs H Q E h⟩)
  · rintro ds d ⟨_, _, _, rfl, _⟩; rfl
  ·
    obtain ⟨p, a, n, rfl, hp, hp2, hn, hn2, hna, ha, rfl⟩ := p
    have hLM : LM = 1000000 := rfl
    show StD K _ [.val (.int p), .val (inD a), .val (.int n), .un, .un] _
    refine st_seq (st_set (ev_pub (en_lst1 ev_int))) ?_
    refine st_seq (st_for (S := Nat) (as := rangeI 0 n.toNat) (enc := D.int) (Gs := fun k => [.val (.int p), .val (inD a), .val (.int n), .val (inD (ppow p a k)), .un]) (step := fun k _ => k + 1) (s0 := 0) (it_rng1 (n := n) (by omega) (ev_var rfl)) fun pre x post e => ?_) ?_
    · have hk : pre.foldl (fun (k : Nat) (_ : Int) => k + 1) 0 = pre.length := (foldl_count pre 0).trans (Nat.zero_add _)
      have hpre : pre.length < n.toNat := by
        have := congrArg List.length e
        rw [rangeI_len, List.length_append, List.length_cons] at this
        omega
      rw [hk]
      have hlen := ppow_len (p := p) (a := a) (n := pre.length)
      have h5 : pre.length * a.length ≤ n.toNat * a.length := Nat.mul_le_mul_right _ (by omega)
      refine ⟨_, _, tg_name, StD.lp (StD.weak (st_set (i := 3) (ev_call (ea3 (ev_var rfl) (ev_var rfl) (ev_var rfl)) ⟨_, _, _, rfl, hp, by omega, by omega, ?_, rfl⟩)) (.eq (.eq (.eq (.eq (.un .nil))))))⟩
      exact ppow_sm hp hp2
    rw [foldl_count, rangeI_len, Nat.zero_add]
    exact st_ret (ev_var rfl)
abbrev s_parted : Stmt := top 27
abbrev nm_parted : List Str := ["p", "one", "other", "rest", "quotient", "back", "at", "number", "place", "item"]
theorem sc_parted : FnScope nm_parted ["p", "one", "other"] (defScope s_parted) := ⟨rfl, rfl, rfl, by decide +kernel, rfl, by decide +kernel, by decide +kernel⟩
theorem ok_parted (fx : Fx K mg) (c_inverse : Cal P w K mg base 1 "inverse" (spD K p_inverse) []) (c_trimmed : Cal P w K mg base 1 "trimmed" (spD K p_trimmed) []) (F : FunD K "parted" "parted" (defArgs s_parted) (defBody s_parted) (defScope s_parted) [] [] f fd) : FnOk P w K mg base CX0 2 f fd ["p", "one", "other"] (spD K p_parted) := by
  refine F.ok sc_parted (spD_len (n := 3) ?_) (fun cdv A outer s H vs Q E hr h => ⟨_, PSs.nox ((pss_cons (ps_par3 (i := 3) (j := 4) (l := 5) (by rfl) sc_parted.nd rfl rfl rfl (by decide) (by decide) (by decide) rfl rfl rfl (pa_cons (pe_callTy (lstOf K) (by rfl) fx.b_list (by decide +kernel) (pa_cons (pv 1) pa_nil)) (pa_cons (pe_op op_rep (pe_lst (pa_cons pe_int pa_nil)) (pe_callB (call_max2 rfl) (by rfl) fx.b_max (by decide +kernel) (pa_cons (pe_op op_add (pe_op op_sub (pe_callB (lenS K) (by rfl) fx.b_len (by decide +kernel) (pa_cons (pv 1) pa_nil)) (pe_callB (lenS K) (by rfl) fx.b_len (by decide +kernel) (pa_cons (pv 2) pa_nil))) pe_int) (pa_cons pe_int pa_nil)))) (pa_cons (pe_c c_inverse hr (by decide) rfl (pa_cons (pv 0) (pa_cons (pe_ix (ixl K) (pv 2) (pe_un un_neg pe_int) (fun _ _ => rfl)) pa_nil))) pa_nil))) (by rfl))
      (pss_cons (ps_for PassesOwn.never rfl (pi_range3 (by rfl) fx.b_range (pa_cons (pe_op op_sub (pe_callB (lenS K) (by rfl) fx.b_len (by decide +kernel) (pa_cons (pv 1) pa_nil)) (pe_callB (lenS K) (by rfl) fx.b_len (by decide +kernel) (pa_cons (pv 2) pa_nil))) (pa_cons (pe_un un_neg pe_int) (pa_cons (pe_un un_neg pe_int) pa_nil)))) (pg_name (i := 6) sc_parted.nd rfl (by first | exact Or.inl rfl | exact Or.inr rfl))
      (pss_cons (ps_set (i := 7) sc_parted.nd rfl (by first | exact Or.inl rfl | exact Or.inr rfl) (pe_op op_mod (pe_op op_mul (pe_ix (ixl K) (pv 3) (pe_op op_sub (pe_op op_add (pv 6) (pe_callB (lenS K) (by rfl) fx.b_len (by decide +kernel) (pa_cons (pv 2) pa_nil))) pe_int) (fun _ _ => rfl)) (pv 5)) (pv 0)))
      (pss_cons (ps_asg (pv 7) (pg_sub (pv 4) (pv 6) set_list))
      (pss_one (ps_for PassesOwn.never rfl (pien K (by rfl) fx.b_enumerate (pa_cons (pv 2) pa_nil)) (pgt (n := 2) K rfl (pgs_cons (pg_name (i := 8) sc_parted.nd rfl (by first | exact Or.inl rfl | exact Or.inr rfl)) (pgs_cons (pg_name (i := 9) sc_parted.nd rfl (by first | exact Or.inl rfl | exact Or.inr rfl)) pgs_nil)))
      (pss_one (ps_asg (pe_op op_mod (pe_op op_sub (pe_ix (ixl K) (pv 3) (pe_op op_add (pv 6) (pv 8)) (fun _ _ => rfl)) (pe_op op_mul (pv 7) (pv 9))) (pv 0)) (pg_sub (pv 3) (pe_op op_add (pv 6) (pv 8)) set_list))))))))
      (pss_one (ps_ret (pe_tup (pa_cons (pe_c c_trimmed hr (by decide) rfl (pa_cons (pv 0) (pa_cons (pv 4) pa_nil))) (pa_cons (pe_c c_trimmed hr (by decide) rfl (pa_cons (pv 0) (pa_cons (pv 3) pa_nil))) pa_nil)))))))), run_def (N := nm_parted) (fun ds d p => ?_) vs H Q E h⟩)
  · rintro ds d ⟨_, _, _, rfl, _⟩; rfl
  ·
    obtain ⟨p, a, b, rfl, hp, ha, hb, hne, nb, rfl⟩ := p
    have hLM : LM = 1000000 := rfl
    have hl0 := nb.lst hne
    have hlp := hp.le
    have hpp := hp.pos
    have hbl := List.length_pos_iff.mpr hne
    have hmod : lastI b % p = lastI b := Int.emod_eq_of_lt (by omega) (by omega)
    have hinv := pinv_mem hp (n := lastI b) (by omega)
    show StD K _ [.val (.int p), .val (inD a), .val (inD b), .un, .un, .un, .un, .un, .un, .un] _
    refine st_seq (st_par3 (c1 := .own (a.map D.int)) (em_n (en_listof (ev_var rfl))) (em_n (en_repT (by omega) (ev_pub (en_lst1 ev_int)) (ev_max (ev_add (ev_sub (ev_lenL (ev_var rfl).h) (ev_lenL (ev_var rfl).h)) ev_int) ev_int))) (em_v (ev_call (ea2 (ev_var rfl) (ev_ixN hne (ev_var rfl) ev_m1)) ⟨_, _, rfl, hp, by omega, by omega, rfl⟩)) (fun h => nomatch h) (fun h => nomatch h) (fun h => nomatch h) (by decide) (by decide) (by decide)) ?_
    refine st_seq (st_for (S := List Int × List Int) (as := rangeC ((a.length : Int) - b.length) (-1) ((a.length : Int) - b.length - (-1)).toNat) (enc := D.int) (Gs := fun s => [.val (.int p), .val (inD a), .val (inD b), .own (s.1.map D.int), .own (s.2.map D.int), .val (.int (pinv p (lastI b))), .un, .un, .un, .un]) (step := divStep p (pinv p (lastI b)) b) (s0 := (a, List.replicate (max ((a.length : Int) - b.length + 1) 0).toNat 0)) (it_rng3 (RgC.neg (by omega) (by omega) (by omega) (by omega)) (ev_sub (ev_lenL (ev_var rfl).h) (ev_lenL (ev_var rfl).h)) ev_m1 ev_m1) fun pre x post e => ?_) ?_
    · have hx := rangeC_mem (mem_mid e)
      have hg := divG_len (p := p) (back := pinv p (lastI b)) (b := b) pre (a, List.replicate (max ((a.length : Int) - b.length + 1) 0).toNat 0)
      generalize hs : pre.foldl (divStep p (pinv p (lastI b)) b) (a, List.replicate (max ((a.length : Int) - b.length + 1) 0).toNat 0) = s at hg ⊢
      obtain ⟨r, q⟩ := s
      simp only [List.length_replicate] at hg
      refine ⟨_, _, tg_name, StD.lp ?_⟩
      simp only [divStep]
      have hnum : 0 ≤ cf r (x + b.length - 1).toNat * pinv p (lastI b) % p ∧ cf r (x + b.length - 1).toNat * pinv p (lastI b) % p < p := ⟨Int.emod_nonneg _ (by omega), Int.emod_lt_of_pos _ hpp⟩
      refine st_seq (st_set (ev_mod hpp (ev_mulS (.inr (by omega)) (ev_ixIO (l := r) rfl (by omega) (by omega) (ev_sub (ev_add (ev_var rfl) (ev_lenL (ev_var rfl).h)) ev_int)) (ev_var rfl)) (ev_var rfl))) ?_
      generalize cf r (x + b.length - 1).toNat * pinv p (lastI b) % p = num at hnum
      refine st_seq (st_setL (l := q) (i := 4) rfl (by omega) (by omega) (ev_var rfl) (ev_var rfl)) ?_
      refine StD.weak (st_for (S := List Int) (as := enumI b) (Gs := fun l => [.val (.int p), .val (inD a), .val (inD b), .own (l.map D.int), .own ((q.set x.toNat num).map D.int), .val (.int (pinv p (lastI b))), .val (.int x), .val (.int num), .un, .un]) (step := fun l q => l.set (x + q.1).toNat ((cf l (x + q.1).toNat - num * q.2) % p)) (s0 := r) (it_enum (ev_var rfl)) fun pre2 y post2 e2 => ?_) (.eq (.eq (.eq (.eq (.eq (.eq (.un (.un (.eq (.eq .nil))))))))))
      obtain ⟨j, y⟩ := y
      have hy := enumI_mem (mem_mid e2)
      have hl2 : (pre2.foldl (fun l q => l.set (x + q.1).toNat ((cf l (x + q.1).toNat - num * q.2) % p)) r).length = r.length := foldl_len _ (fun _ _ => by simp) _ _
      generalize hs2 : pre2.foldl (fun l q => l.set (x + q.1).toNat ((cf l (x + q.1).toNat - num * q.2) % p)) r = l1 at hl2 ⊢
      refine ⟨_, _, tg_tup (tgs_cons tg_name (tgs_cons tg_name tgs_nil)) rfl, ?_⟩
      exact StD.lp (StD.weak (st_setL (l := l1) (i := 3) rfl (by omega) (by omega) (ev_mod hpp (ev_sub (ev_ixIO (l := l1) rfl (by omega) (by omega) (ev_add (ev_var rfl) (ev_var rfl))) (ev_mulS (.inl (by omega)) (ev_var rfl) (ev_var rfl))) (ev_var rfl)) (ev_add (ev_var rfl) (ev_var rfl))) (.eq (.eq (.eq (.eq (.eq (.eq (.eq (.eq (.un (.un .nil)))))))))))
    have hg := divG_len (p := p) (back := pinv p (lastI b)) (b := b) (rangeC ((a.length : Int) - b.length) (-1) ((a.length : Int) - b.length - (-1)).toNat) (a, List.replicate (max ((a.length : Int) - b.length + 1) 0).toNat 0)
    simp only [List.length_replicate] at hg
    refine st_pub (i := 3) rfl (st_pub (i := 4) rfl (st_ret (ev_tup (ea2 (ev_call (ea2 (ev_var rfl) (ev_var rfl)) ⟨_, _, rfl, hpp, ?_, rfl⟩) (ev_call (ea2 (ev_var rfl) (ev_var rfl)) ⟨_, _, rfl, hpp, ?_, rfl⟩)) (by show 2 ≤ sizeLine; decide))))
    · rw [hg.2]; omega
    · rw [hg.1]; omega
abbrev s_whole_part : Stmt := top 28
abbrev nm_whole_part : List Str := ["p", "one", "other"]
theorem sc_whole_part : FnScope nm_whole_part ["p", "one", "other"] (defScope s_whole_part) := ⟨rfl, rfl, rfl, by decide +kernel, rfl, by decide +kernel, by decide +kernel⟩
theorem ok_whole_part (fx : Fx K mg) (c_parted : Cal P w K mg base 2 "parted" (spD K p_parted) []) (F : FunD K "whole_part" "whole_part" (defArgs s_whole_part) (defBody s_whole_part) (defScope s_whole_part) [] [] f fd) : FnOk P w K mg base CX0 3 f fd ["p", "one", "other"] (spD K p_whole_part) := by
  refine F.ok sc_whole_part (spD_len (n := 3) ?_) (fun cdv A outer s H vs Q E hr h => ⟨_, PSs.nox ((pss_one (ps_ret (pe_ix (ixt K) (pe_c c_parted hr (by decide) rfl (pa_cons (pv 0) (pa_cons (pv 1) (pa_cons (pv 2) pa_nil)))) pe_int (fun _ _ => rfl))))), run_def (N := nm_whole_part) (fun ds d p => ?_) vs H Q E h⟩)
  · rintro ds d ⟨_, _, _, rfl, _⟩; rfl
  ·
    obtain ⟨p, a, b, rfl, hp, ha, hb, hne, nb, rfl⟩ := p
    show StD K _ [.val (.int p), .val (inD a), .val (inD b)] _
    exact st_ret (ev_tix0 (ev_call (ea3 (ev_var rfl) (ev_var rfl) (ev_var rfl)) ⟨_, _, _, rfl, hp, ha, hb, hne, nb, rfl⟩))
abbrev s_common_with : Stmt := top 29
abbrev nm_common_with : List Str := ["p", "one", "other", "low", "high", "quotient", "rest", "left", "right", "back"]
theorem sc_common_with : FnScope nm_common_with ["p", "one", "other"] (defScope s_common_with) := ⟨rfl, rfl, rfl, by decide +kernel, rfl, by decide +kernel, by decide +kernel⟩
theorem ok_common_with (fx : Fx K mg) (c_inverse : Cal P w K mg base 1 "inverse" (spD K p_inverse) []) (c_parted : Cal P w K mg base 2 "parted" (spD K p_parted) []) (c_lessened : Cal P w K mg base 3 "lessened" (spD K p_lessened) []) (c_scaled : Cal P w K mg base 2 "scaled" (spD K p_scaled) []) (c_multiplied : Cal P w K mg base 2 "multiplied" (spD K p_multiplied) []) (F : FunD K "common_with" "common_with" (defArgs s_common_with) (defBody s_common_with) (defScope s_common_with) [] [] f fd) : FnOk P w K mg base CX0 4 f fd ["p", "one", "other"] (spD K p_common_with) := by
  refine F.ok sc_common_with (spD_len (n := 3) ?_) (fun cdv A outer s H vs Q E hr h => ⟨_, PSs.nox ((pss_cons (ps_par (i := 3) (j := 4) (by rfl) sc_common_with.nd rfl rfl (by decide) rfl rfl (pa_cons (pe_tup (pa_cons (pe_callTy (lstOf K) (by rfl) fx.b_list (by decide +kernel) (pa_cons (pv 1) pa_nil)) (pa_cons (pe_lst (pa_cons pe_int pa_nil)) (pa_cons (pe_lst pa_nil) pa_nil)))) (pa_cons (pe_tup (pa_cons (pe_callTy (lstOf K) (by rfl) fx.b_list (by decide +kernel) (pa_cons (pv 2) pa_nil)) (pa_cons (pe_lst pa_nil) (pa_cons (pe_lst (pa_cons pe_int pa_nil)) pa_nil)))) pa_nil)) (by rfl))
      (pss_cons (ps_while PassesOwn.never (pt_cmpR (opNe K hr.units) (pe_ix (ixt K) (pv 4) pe_int (fun _ _ => rfl)) (pe_lst pa_nil) (nomark _))
      (pss_cons (ps_asg (pe_c c_parted hr (by decide) rfl (pa_cons (pv 0) (pa_cons (pe_ix (ixt K) (pv 3) pe_int (fun _ _ => rfl)) (pa_cons (pe_ix (ixt K) (pv 4) pe_int (fun _ _ => rfl)) pa_nil)))) (pgt (n := 2) K rfl (pgs_cons (pg_name (i := 5) sc_common_with.nd rfl (by first | exact Or.inl rfl | exact Or.inr rfl)) (pgs_cons (pg_name (i := 6) sc_common_with.nd rfl (by first | exact Or.inl rfl | exact Or.inr rfl)) pgs_nil))))
      (pss_cons (ps_set (i := 7) sc_common_with.nd rfl (by first | exact Or.inl rfl | exact Or.inr rfl) (pe_c c_lessened hr (by decide) rfl (pa_cons (pv 0) (pa_cons (pe_ix (ixt K) (pv 3) pe_int (fun _ _ => rfl)) (pa_cons (pe_c c_multiplied hr (by decide) rfl (pa_cons (pv 0) (pa_cons (pv 5) (pa_cons (pe_ix (ixt K) (pv 4) pe_int (fun _ _ => rfl)) pa_nil)))) pa_nil)))))
      (pss_cons (ps_set (i := 8) sc_common_with.nd rfl (by first | exact Or.inl rfl | exact Or.inr rfl) (pe_c c_lessened hr (by decide) rfl (pa_cons (pv 0) (pa_cons (pe_ix (ixt K) (pv 3) pe_int (fun _ _ => rfl)) (pa_cons (pe_c c_multiplied hr (by decide) rfl (pa_cons (pv 0) (pa_cons (pv 5) (pa_cons (pe_ix (ixt K) (pv 4) pe_int (fun _ _ => rfl)) pa_nil)))) pa_nil)))))
      (pss_one (ps_par (i := 3) (j := 4) (by rfl) sc_common_with.nd rfl rfl (by decide) rfl rfl (pa_cons (pv 4) (pa_cons (pe_tup (pa_cons (pv 6) (pa_cons (pv 7) (pa_cons (pv 8) pa_nil)))) pa_nil)) (by rfl)))))))
      (pss_cons (ps_if (pt_cmpR (opEq K hr.units) (pe_ix (ixt K) (pv 3) pe_int (fun _ _ => rfl)) (pe_lst pa_nil) (nomark _)) (pss_one (ps_ret (pe_tup (pa_cons (pe_lst pa_nil) (pa_cons (pe_lst pa_nil) (pa_cons (pe_lst pa_nil) pa_nil)))))) pss_nil)
      (pss_cons (ps_set (i := 9) sc_common_with.nd rfl (by first | exact Or.inl rfl | exact Or.inr rfl) (pe_c c_inverse hr (by decide) rfl (pa_cons (pv 0) (pa_cons (pe_ix (ixl K) (pe_ix (ixt K) (pv 3) pe_int (fun _ _ => rfl)) (pe_un un_neg pe_int) (fun _ _ => rfl)) pa_nil))))
      (pss_one (ps_ret (pe_tup (pa_cons (pe_c c_scaled hr (by decide) rfl (pa_cons (pv 0) (pa_cons (pe_ix (ixt K) (pv 3) pe_int (fun _ _ => rfl)) (pa_cons (pv 9) pa_nil)))) (pa_cons (pe_c c_scaled hr (by decide) rfl (pa_cons (pv 0) (pa_cons (pe_ix (ixt K) (pv 3) pe_int (fun _ _ => rfl)) (pa_cons (pv 9) pa_nil)))) (pa_cons (pe_c c_scaled hr (by decide) rfl (pa_cons (pv 0) (pa_cons (pe_ix (ixt K) (pv 3) pe_int (fun _ _ => rfl)) (pa_cons (pv 9) pa_nil)))) pa_nil))))))))))), run_def (N := nm_common_with) (fun ds d p => ?_) vs H Q E h⟩)
  · rintro ds d ⟨_, _, _, rfl, _⟩; rfl
  ·
    obtain ⟨p, a, b, rfl, hp, hl, ha, hb, rfl⟩ := p
    have hLM : LM = 1000000 := rfl
    have hlp := hp.le
    have hpp := hp.pos
    show StD K _ [.val (.int p), .val (inD a), .val (inD b), .un, .un, .un, .un, .un, .un, .un] _
    refine st_seq (st_par (c1 := .val (triD (a, [1], []))) (c2 := .val (triD (b, [], [1]))) (em_v (ev_tup (ea3 (ev_pub (en_listof (ev_var rfl))) (ev_pub (en_lst1 ev_int)) (ev_pub en_lst0)) (by show 3 ≤ sizeLine; decide))) (em_v (ev_tup (ea3 (ev_pub (en_listof (ev_var rfl))) (ev_pub en_lst0) (ev_pub (en_lst1 ev_int))) (by show 3 ≤ sizeLine; decide))) (fun h => nomatch h) (fun h => nomatch h) (by decide)) ?_
    refine st_seq (st_while (S := Tri × Tri) (Gs := fun s => [.val (.int p), .val (inD a), .val (inD b), .val (triD s.1), .val (triD s.2), .un, .un, .un, .un, .un]) (Iv := EgI p (a.length + b.length + 1)) (μ := fun s => s.2.1.length) (f := egStep p) (cd := egC) b.length (s0 := eg0 a b) (Nat.le_refl _) (eg_start hp ha hb) (fun s i => eb_test (ev_ne0 (ev_tix0 (ev_var rfl)).h)) (fun s i hc => ?_)) ?_
    · have hne : s.2.1 ≠ [] := by simpa [egC] using hc
      obtain ⟨t1, t2⟩ := eg_turn hp i hc
      refine ⟨?_, t1, t2⟩
      have i1 := i.a1
      have i2 := i.a2
      have i3 := i.c1
      have i4 := i.c2
      have hq := pquo_len (p := p) (a := s.1.1) (b := s.2.1)
      have hl1 := pmul_len (p := p) (a := pquo p s.1.1 s.2.1) (b := s.2.2.1)
      have hl2 := pmul_len (p := p) (a := pquo p s.1.1 s.2.1) (b := s.2.2.2)
      have sq : Sm (pquo p s.1.1 s.2.1) := (pquo_nrm hpp).sm hlp
      refine StD.lp ?_
      refine st_seq (st_unp2 (ev_call (ea3 (ev_var rfl) (ev_tix0 (ev_var rfl)) (ev_tix0 (ev_var rfl))) ⟨_, _, _, rfl, hp, by omega, by omega, hne, i.n2, rfl⟩)) ?_
      refine st_seq (st_set (ev_call (ea3 (ev_var rfl) (ev_tix1 (ev_var rfl)) (ev_call (ea3 (ev_var rfl) (ev_var rfl) (ev_tix1 (ev_var rfl))) ⟨_, _, _, rfl, hpp, by omega, by omega, sq, rfl⟩)) ⟨_, _, _, rfl, hpp, by omega, by omega, rfl⟩)) ?_
      refine st_seq (st_set (ev_call (ea3 (ev_var rfl) (ev_tix2 (ev_var rfl)) (ev_call (ea3 (ev_var rfl) (ev_var rfl) (ev_tix2 (ev_var rfl))) ⟨_, _, _, rfl, hpp, by omega, by omega, sq, rfl⟩)) ⟨_, _, _, rfl, hpp, by omega, by omega, rfl⟩)) ?_
      exact StD.weak (st_par (c1 := .val (triD s.2)) (c2 := .val (triD (egStep p s).2)) (em_v (ev_var rfl)) (em_v (ev_tup (ea3 (ev_var rfl) (ev_var rfl) (ev_var rfl)) (by show 3 ≤ sizeLine; decide))) (fun h => nomatch h) (fun h => nomatch h) (by decide)) (.eq (.eq (.eq (.eq (.eq (.un (.un (.un (.un (.eq .nil))))))))))
    obtain ⟨iv, hc⟩ := while_inv (c := egC) (f := egStep p) (Iv := EgI p (a.length + b.length + 1)) (μ := fun s => s.2.1.length) (fun s i h => eg_turn hp i h) b.length (eg0 a b) (eg_start hp ha hb) (Nat.le_refl _)
    have hF : egF p a b = whileN egC (egStep p) b.length (eg0 a b) := rfl
    unfold pgcd3
    rw [hF]
    generalize whileN egC (egStep p) b.length (eg0 a b) = s at iv ⊢
    refine st_ifS (eb_test (ev_eq0 (ev_tix0 (ev_var rfl)).h)) (fun h => ?_) (fun h => ?_)
    · rw [if_pos (by simpa using h)]
      exact st_seqR (st_ret (ev_tup (ea3 (ev_pub en_lst0) (ev_pub en_lst0) (ev_pub en_lst0)) (by show 3 ≤ sizeLine; decide)))
    · have hne : s.1.1 ≠ [] := by simpa using h
      rw [if_neg hne]
      have hl0 := iv.n1.lst hne
      have hinv := pinv_mem hp (n := lastI s.1.1) (by rw [Int.emod_eq_of_lt (by omega) (by omega)]; omega)
      have i1 := iv.a1
      have i2 := iv.a2
      have i3 := iv.c1
      have i4 := iv.c2
      refine st_seqN (st_seq (st_set (ev_call (ea2 (ev_var rfl) (ev_ixN hne (ev_tix0 (ev_var rfl)) ev_m1)) ⟨_, _, rfl, hp, by rw [Int.emod_eq_of_lt (by omega) (by omega)]; omega, by omega, rfl⟩)) ?_)
      exact st_ret (ev_tup (ea3 (ev_call (ea3 (ev_var rfl) (ev_tix0 (ev_var rfl)) (ev_var rfl)) ⟨_, _, _, rfl, hpp, by omega, by omega, rfl⟩) (ev_call (ea3 (ev_var rfl) (ev_tix1 (ev_var rfl)) (ev_var rfl)) ⟨_, _, _, rfl, hpp, by omega, by omega, rfl⟩) (ev_call (ea3 (ev_var rfl) (ev_tix2 (ev_var rfl)) (ev_var rfl)) ⟨_, _, _, rfl, hpp, by omega, by omega, rfl⟩)) (by show 3 ≤ sizeLine; decide))
abbrev s_common_of : Stmt := top 30
abbrev nm_common_of : List Str := ["p", "one", "other"]
theorem sc_common_of : FnScope nm_common_of ["p", "one", "other"] (defScope s_common_of) := ⟨rfl, rfl, rfl, by decide +kernel, rfl, by decide +kernel, by decide +kernel⟩
theorem ok_common_of (fx : Fx K mg) (c_common_with : Cal P w K mg base 4 "common_with" (spD K p_common_with) []) (F : FunD K "common_of" "common_of" (defArgs s_common_of) (defBody s_common_of) (defScope s_common_of) [] [] f fd) : FnOk P w K mg base CX0 5 f fd ["p", "one", "other"] (spD K p_common_of) := by
  refine F.ok sc_common_of (spD_len (n := 3) ?_) (fun cdv A outer s H vs Q E hr h => ⟨_, PSs.nox ((pss_one (ps_ret (pe_ix (ixt K) (pe_c c_common_with hr (by decide) rfl (pa_cons (pv 0) (pa_cons (pv 1) (pa_cons (pv 2) pa_nil)))) pe_int (fun _ _ => rfl))))), run_def (N := nm_common_of) (fun ds d p => ?_) vs H Q E h⟩)
  · rintro ds d ⟨_, _, _, rfl, _⟩; rfl
  ·
    obtain ⟨p, a, b, rfl, hp, hl, ha, hb, rfl⟩ := p
    show StD K _ [.val (.int p), .val (inD a), .val (inD b)] _
    exact st_ret (ev_tix0 (ev_call (ea3 (ev_var rfl) (ev_var rfl) (ev_var rfl)) ⟨_, _, _, rfl, hp, hl, ha, hb, rfl⟩))
abbrev s_slope_of : Stmt := top 31
abbrev nm_slope_of : List Str := ["p", "one", "at", "number"]
theorem sc_slope_of : FnScope nm_slope_of ["p", "one"] (defScope s_slope_of) := ⟨rfl, rfl, rfl, by decide +kernel, rfl, by decide +kernel, by decide +kernel⟩
theorem ok_slope_of (fx : Fx K mg) (c_trimmed : Cal P w K mg base 1 "trimmed" (spD K p_trimmed) []) (F : FunD K "slope_of" "slope_of" (defArgs s_slope_of) (defBody s_slope_of) (defScope s_slope_of) [] [] f fd) : FnOk P w K mg base CX0 2 f fd ["p", "one"] (spD K p_slope_of) := by
  refine F.ok sc_slope_of (spD_len (n := 2) ?_) (fun cdv A outer s H vs Q E hr h => ⟨_, PSs.nox ((pss_one (ps_ret (pe_c c_trimmed hr (by decide) rfl (pa_cons (pv 0) (pa_cons (pe_slice (sll K) (pe_lc (own := [("at", 2), ("number", 3)]) rfl sc_slope_of.nd (pien K (by rfl) fx.b_enumerate (pa_cons (pv 1) pa_nil)) (blkOk_by (N := nm_slope_of) (sc := defScope s_slope_of) (by decide +kernel)) (fun _ _ _ _ _ => (pgt (n := 2) K rfl (pgs_cons (pg_name (i := 2) sc_slope_of.nd rfl (by first | exact Or.inl rfl | exact Or.inr rfl)) (pgs_cons (pg_name (i := 3) sc_slope_of.nd rfl (by first | exact Or.inl rfl | exact Or.inr rfl)) pgs_nil)))) (fun _ _ _ _ _ => pts_nil) (fun _ _ _ _ _ => (pe_op op_mul (pv 2) (pv 3)))) (po_some pe_int) po_none) pa_nil)))))), run_def (N := nm_slope_of) (fun ds d p => ?_) vs H Q E h⟩)
  · rintro ds d ⟨_, _, rfl, _⟩; rfl
  ·
    obtain ⟨p, a, rfl, hp, ha, rfl⟩ := p
    have hLM : LM = 1000000 := rfl
    show StD K _ [.val (.int p), .val (inD a), .un, .un] _
    refine st_ret (ev_call (ea2 (ev_var rfl) (ev_pub ((en_slice (ev_pub (en_lcT D.int (fun q : Int × Int => q.1 * q.2) (by rw [enumI_len]; exact LMs (by omega)) (it_enum (ev_var rfl)) fun pre x post e => ⟨_, _, tg_tup (tgs_cons tg_name (tgs_cons tg_name tgs_nil)) rfl, fun _ h => h, ev_mulS (.inl (by have := enumI_mem (mem_mid e); omega)) (ev_var rfl) (ev_var rfl)⟩)) (eo_some ev_int) eo_no).cast (cut_tail _)))) ⟨_, _, rfl, hp, by rw [List.length_tail, List.length_map, enumI_len]; omega, rfl⟩)
end
end Cw
set_option maxHeartbeats 4000000
namespace Cw
open PySem PySem.Spec PyProof.Rows L2
open C8 (Cal Met Mak pe_c pe_mk pe_mt pe_mt0 pe_gc InsC call_isC)
section
variable {P : Program} {w : World} {K : Fg} {mg : Str → Option Value} {base : Heap} {f : Addr} {fd : FuncData}
abbrev s_is_whole : Stmt := top 12
abbrev nm_is_whole : List Str := ["value"]
theorem sc_is_whole : FnScope nm_is_whole ["value"] (defScope s_is_whole) := ⟨rfl, rfl, rfl, by decide +kernel, rfl, by decide +kernel, by decide +kernel⟩
theorem ok_is_whole (fx : Fx K mg) (F : FunD K "is_whole" "is_whole" (defArgs s_is_whole) (defBody s_is_whole) (defScope s_is_whole) [] [] f fd) : FnOk P w K mg base CX0 1 f fd ["value"] (spD K p_is_whole) := by
  refine F.ok sc_is_whole (spD_len (n := 1) ?_) (fun cdv A outer s H vs Q E hr h => ⟨_, PSs.nox ((pss_one (ps_ret (pe_and (pe_callB (isiS K) (by rfl) fx.b_isinstance (by decide +kernel) (pa_cons (pv 0) (pa_cons (pe_bltn (by rfl) fx.b_int (by decide +kernel) (show RelV (.ty "int") _ from rfl)) pa_nil))) (pe_one (pe_not (pe_callB (isiS K) (by rfl) fx.b_isinstance (by decide +kernel) (pa_cons (pv 0) (pa_cons (pe_bltn (by rfl) fx.b_bool (by decide +kernel) (show RelV (.ty "bool") _ from rfl)) pa_nil))))))))), run_def (N := nm_is_whole) (fun ds d p => ?_) vs H Q E h⟩)
  · rintro ds d ⟨_, rfl, _⟩; rfl
  ·
    obtain ⟨i, rfl, _, rfl⟩ := p
    show StD K _ [.val (.int i)] _
    exact st_ret ((ev_andV (ev_isi (m := "int") (b := true) (ev_var rfl) ty_int (by decide +kernel)) fun _ => ev_notV (ev_isi (b := false) (m := "int") (ev_var rfl) ty_int (by decide +kernel))).cast rfl)
abbrev s_is_between : Stmt := top 13
abbrev nm_is_between : List Str := ["value", "low", "high"]
theorem sc_is_between : FnScope nm_is_between ["value", "low", "high"] (defScope s_is_between) := ⟨rfl, rfl, rfl, by decide +kernel, rfl, by decide +kernel, by decide +kernel⟩
theorem ok_is_between (fx : Fx K mg) (c_is_whole : Cal P w K mg base 1 "is_whole" (spD K p_is_whole) []) (F : FunD K "is_between" "is_between" (defArgs s_is_between) (defBody s_is_between) (defScope s_is_between) [] [] f fd) : FnOk P w K mg base CX0 2 f fd ["value", "low", "high"] (spD K p_is_between) := by
  refine F.ok sc_is_between (spD_len (n := 3) ?_) (fun cdv A outer s H vs Q E hr h => ⟨_, PSs.nox ((pss_one (ps_ret (pe_and (pe_c c_is_whole hr (by decide) rfl (pa_cons (pv 0) pa_nil)) (pe_and (pe_cmpR op_ge (pv 0) (pv 1) (nomark _)) (pe_one (pe_or (pe_cmpR op_isN (pv 2) pe_non (nomark _)) (pe_one (pe_cmpR op_le (pv 0) (pv 2) (nomark _)))))))))), run_def (N := nm_is_between) (fun ds d p => ?_) vs H Q E h⟩)
  · rintro ds d ⟨_, _, _, rfl, _⟩; rfl
  ·
    obtain ⟨v, lo, hi, rfl, _, rfl⟩ := p
    show StD K _ [.val (.int v), .val (.int lo), .val (.int hi)] _
    exact st_ret ((ev_andV (ev_call (ea1 (ev_var rfl)) ⟨_, rfl, trivial, rfl⟩) fun _ => ev_andV (ev_ge (ev_var rfl) (ev_var rfl)) fun _ => ev_orV (ev_isN0 (ev_var rfl)) fun _ => ev_le (ev_var rfl) (ev_var rfl)).cast (by simp))
abbrev s_check_number : Stmt := top 14
abbrev nm_check_number : List Str := ["number", "low", "high"]
theorem sc_check_number : FnScope nm_check_number ["number", "low", "high"] (defScope s_check_number) := ⟨rfl, rfl, rfl, by decide +kernel, rfl, by decide +kernel, by decide +kernel⟩
theorem ok_check_number (fx : Fx K mg) (c_is_between : Cal P w K mg base 2 "is_between" (spD K p_is_between) []) (F : FunD K "check_number" "check_number" (defArgs s_check_number) (defBody s_check_number) (defScope s_check_number) [] [] f fd) : FnOk P w K mg base CX0 3 f fd ["number", "low", "high"] (spD K p_check_number) := by
  refine F.ok sc_check_number (spD_len (n := 3) ?_) (fun cdv A outer s H vs Q E hr h => ⟨_, PSs.nox ((pss_one (ps_if (pt_not (pt_val (pe_c c_is_between hr (by decide) rfl (pa_cons (pv 0) (pa_cons (pv 1) (pa_cons (pv 2) pa_nil)))))) (pss_one ps_never) pss_nil))), run_defN (N := nm_check_number) (fun ds d p => ?_) vs H Q E h⟩)
  · rintro ds d ⟨_, _, _, rfl, _⟩; rfl
  ·
    obtain ⟨v, lo, hi, rfl, h1, h2, rfl⟩ := p
    refine ⟨rfl, [.val (.int v), .val (.int lo), .val (.int hi)], ?_⟩
    show StD K _ [.val (.int v), .val (.int lo), .val (.int hi)] _
    exact st_if (eb_not (eb_val (ev_call (ea3 (ev_var rfl) (ev_var rfl) (ev_var rfl)) ⟨_, _, _, rfl, trivial, rfl⟩))) (fun h => absurd h (by simp [h1, h2])) fun _ => st_nil
abbrev s_check_prime : Stmt := top 15
abbrev nm_check_prime : List Str := ["p"]
theorem sc_check_prime : FnScope nm_check_prime ["p"] (defScope s_check_prime) := ⟨rfl, rfl, rfl, by decide +kernel, rfl, by decide +kernel, by decide +kernel⟩
theorem ok_check_prime (fx : Fx K mg) (c_is_whole : Cal P w K mg base 1 "is_whole" (spD K p_is_whole) []) (F : FunD K "check_prime" "check_prime" (defArgs s_check_prime) (defBody s_check_prime) (defScope s_check_prime) [] [] f fd) : FnOk P w K mg base CX0 2 f fd ["p"] (spD K p_check_prime) := by
  refine F.ok sc_check_prime (spD_len (n := 1) ?_) (fun cdv A outer s H vs Q E hr h => ⟨_, PSs.nox ((pss_one (ps_if (PW.pt (pw_or (pt_not (pt_val (pe_c c_is_whole hr (by decide) rfl (pa_cons (pv 0) pa_nil)))) (pw_or1 (pt_cmpR (niS K) (pv 0) (pe_gc rfl fx.g_PRIMES) (by rfl))))) (pss_one ps_never) pss_nil))), run_defN (N := nm_check_prime) (fun ds d p => ?_) vs H Q E h⟩)
  · rintro ds d ⟨_, rfl, _⟩; rfl
  ·
    obtain ⟨p, rfl, hp, rfl⟩ := p
    refine ⟨rfl, [.val (.int p)], ?_⟩
    show StD K _ [.val (.int p)] _
    exact st_if (eb_or (eb_not (eb_val (ev_call (ea1 (ev_var rfl)) ⟨_, rfl, trivial, rfl⟩))) fun _ => eb_test (ev_inT (ns := [3, 5, 7, 11, 13]) (ev_var rfl) (ev_gtup (ns := [3, 5, 7, 11, 13]) fx.t_PRIMES))) (fun h => absurd h (by rcases hp with rfl | rfl | rfl | rfl | rfl <;> decide)) fun _ => st_nil
abbrev s_is_poly_list : Stmt := top 16
abbrev nm_is_poly_list : List Str := ["p", "value", "number"]
theorem sc_is_poly_list : FnScope nm_is_poly_list ["p", "value"] (defScope s_is_poly_list) := ⟨rfl, rfl, rfl, by decide +kernel, rfl, by decide +kernel, by decide +kernel⟩
theorem ok_is_poly_list (fx : Fx K mg) (c_is_between : Cal P w K mg base 2 "is_between" (spD K p_is_between) []) (F : FunD K "is_poly_list" "is_poly_list" (defArgs s_is_poly_list) (defBody s_is_poly_list) (defScope s_is_poly_list) [] [] f fd) : FnOk P w K mg base CX0 3 f fd ["p", "value"] (spD K p_is_poly_list) := by
  refine F.ok sc_is_poly_list (spD_len (n := 2) ?_) (fun cdv A outer s H vs Q E hr h => ⟨_, PSs.nox ((pss_cons (ps_if (PW.pt (pw_or (pt_not (pt_val (pe_callB (isiS K) (by rfl) fx.b_isinstance (by decide +kernel) (pa_cons (pv 1) (pa_cons (pe_bltn (by rfl) fx.b_list (by decide +kernel) (show RelV (.ty "list") _ from rfl)) pa_nil))))) (pw_or1 (pt_cmpR op_gt (pe_callB (lenS K) (by rfl) fx.b_len (by decide +kernel) (pa_cons (pv 1) pa_nil)) (pe_op op_add (pe_gc rfl fx.g_MOST_POWER) pe_int) (nomark _))))) (pss_one (ps_ret pe_bl)) pss_nil)
      (pss_cons (ps_if (pt_cmpR (opNe K hr.units) (pe_lc (own := [("number", 2)]) rfl sc_is_poly_list.nd (pil K (pv 1)) (blkOk_by (N := nm_is_poly_list) (sc := defScope s_is_poly_list) (by decide +kernel)) (fun _ _ _ _ _ => (pg_name (i := 2) sc_is_poly_list.nd rfl (by first | exact Or.inl rfl | exact Or.inr rfl))) (fun _ _ _ _ _ => (pts_one (pt_not (pt_val (pe_c c_is_between hr (by decide) rfl (pa_cons (pv 2) (pa_cons pe_int (pa_cons (pe_op op_sub (pv 0) pe_int) pa_nil)))))))) (fun _ _ _ _ _ => (pv 2))) (pe_lst pa_nil) (nomark _)) (pss_one (ps_ret pe_bl)) pss_nil)
      (pss_one (ps_ret (pe_or (pe_cmpR (opEq K hr.units) (pv 1) (pe_lst pa_nil) (nomark _)) (pe_one (pe_cmpR op_ne (pe_ix (ixl K) (pv 1) (pe_un un_neg pe_int) (fun _ _ => rfl)) pe_int (nomark _))))))))), run_def (N := nm_is_poly_list) (fun ds d p => ?_) vs H Q E h⟩)
  · rintro ds d ⟨_, _, rfl, _⟩; rfl
  ·
    obtain ⟨p, a, rfl, hp, na, hl, rfl⟩ := p
    have hLM : LM = 1000000 := rfl
    show StD K _ [.val (.int p), .val (inD a), .un] _
    refine st_ifS (eb_or (eb_not (eb_val (ev_isi (m := "list") (b := true) (ev_var rfl) ty_lst (by decide +kernel)))) fun _ => eb_test (ev_gt (ev_lenL (ev_var rfl).h) (ev_add ev_int ev_int))) (fun h => absurd h (by simp; omega)) fun _ => st_seqN ?_
    have hf : (a.filter fun x => !(decide (0 ≤ x) && decide (x ≤ p - 1))) = [] := by
      rw [List.filter_eq_nil_iff]
      intro x hx
      have := na.1 x hx
      simp; omega
    refine st_ifS (eb_test (ev_ne0 (eh_pub (en_lcF D.int (fun x => !(decide (0 ≤ x) && decide (x ≤ p - 1))) (fun x => x) (LMs (by omega)) (it_list (ev_var rfl)) fun _ _ _ _ => ⟨_, _, tg_name, fun _ h => h, eb_not (eb_val (ev_call (ea3 (ev_var rfl) ev_int (ev_sub (ev_var rfl) ev_int)) ⟨_, _, _, rfl, trivial, rfl⟩)), fun _ => ev_var rfl⟩)))) (fun h => absurd h (by rw [hf]; simp)) fun _ => st_seqN ?_
    refine st_ret ((ev_orV (ev_eq0 (ev_var rfl).h) fun h => ev_neI (ev_ixN (by simpa using h) (ev_var rfl) ev_m1) ev_int).cast ?_)
    by_cases q : a = []
    · simp [q]
    · simp [q, na.2 q]
abbrev s_check_poly : Stmt := top 17
abbrev nm_check_poly : List Str := ["p", "value"]
theorem sc_check_poly : FnScope nm_check_poly ["p", "value"] (defScope s_check_poly) := ⟨rfl, rfl, rfl, by decide +kernel, rfl, by decide +kernel, by decide +kernel⟩
theorem ok_check_poly (fx : Fx K mg) (c_is_poly_list : Cal P w K mg base 3 "is_poly_list" (spD K p_is_poly_list) []) (F : FunD K "check_poly" "check_poly" (defArgs s_check_poly) (defBody s_check_poly) (defScope s_check_poly) [] [] f fd) : FnOk P w K mg base CX0 4 f fd ["p", "value"] (spD K p_check_poly) := by
  refine F.ok sc_check_poly (spD_len (n := 2) ?_) (fun cdv A outer s H vs Q E hr h => ⟨_, PSs.nox ((pss_one (ps_if (pt_not (pt_val (pe_c c_is_poly_list hr (by decide) rfl (pa_cons (pv 0) (pa_cons (pv 1) pa_nil))))) (pss_one ps_never) pss_nil))), run_defN (N := nm_check_poly) (fun ds d p => ?_) vs H Q E h⟩)
  · rintro ds d ⟨_, _, rfl, _⟩; rfl
  ·
    obtain ⟨p, a, rfl, hp, na, hl, rfl⟩ := p
    refine ⟨rfl, [.val (.int p), .val (inD a)], ?_⟩
    show StD K _ [.val (.int p), .val (inD a)] _
    exact st_if (eb_not (eb_val (ev_call (ea2 (ev_var rfl) (ev_var rfl)) ⟨_, _, rfl, hp, na, hl, rfl⟩))) (fun h => absurd h (by simp)) fun _ => st_nil
end
end Cw
set_option maxHeartbeats 4000000
namespace Cw
open PySem PySem.Spec PyProof.Rows L2
open C8 (Cal Met Mak pe_c pe_mk pe_mt pe_mt0 pe_gc InsC call_isC)
section
variable {P : Program} {w : World} {K : Fg} {mg : Str → Option Value} {base : Heap} {f : Addr} {fd : FuncData}
abbrev s_Curve___init__ : Stmt := inClass (top 33) 0
abbrev nm_Curve___init__ : List Str := ["self", "p", "f"]
theorem sc_Curve___init__ : FnScope nm_Curve___init__ ["self", "p", "f"] (defScope s_Curve___init__) := ⟨rfl, rfl, rfl, by decide +kernel, rfl, by decide +kernel, by decide +kernel⟩
theorem ok_Curve___init__ (fx : Fx K mg) (c_check_prime : Cal P w K mg base 2 "check_prime" (spD K p_check_prime) []) (c_is_curve_poly : Cal P w K mg base 6 "is_curve_poly" (spD K p_is_curve_poly) []) (F : FunD K "__init__" "Curve.__init__" (defArgs s_Curve___init__) (defBody s_Curve___init__) (defScope s_Curve___init__) [] [] f fd) : FnOk P w K mg base CX0 7 f fd ["self", "p", "f"] (spI K (He.ga K "Curve") (p_Curve___init__ K)) := by
  refine F.ok sc_Curve___init__ ?_ (fun cdv A outer s H vs Q E hr h => ⟨_, PSs.nox ((pss_cons (ps_expr (pe_c c_check_prime hr (by decide) rfl (pa_cons (pv 1) pa_nil)))
      (pss_cons (ps_if (pt_not (pt_val (pe_c c_is_curve_poly hr (by decide) rfl (pa_cons (pv 1) (pa_cons (pv 2) pa_nil))))) (pss_one ps_never) pss_nil)
      (pss_cons (ps_fld (pv 0) (pv 1) rfl)
      (pss_one (ps_fld (pv 0) (pe_callTy (lstOf K) (by rfl) fx.b_list (by decide +kernel) (pa_cons (pv 2) pa_nil)) rfl)))))), ?_⟩)
  · rintro vs H Q E ⟨F, x, dx, us, ds, ns, fs, rfl, _, r, _, _, ⟨p, f, rfl, _⟩, _⟩
    simp [r.len]
  · obtain ⟨F1, x, dx, us, ds, ns, fs, rfl, sf, r, hx, hf, ⟨p, f, rfl, ok, hd⟩, q⟩ := h
    cases hd
    have s := sokI (N := nm_Curve___init__) sf hf r
    refine raw_drop s (ev_call (ea1 (ev_var rfl)) ⟨p, rfl, ok.pm, rfl⟩) fun F2 H2 t2 => ?_
    refine raw_no (s.step t2) (eb_not (eb_val (ev_call (ea2 (ev_var rfl) (ev_var rfl)) ⟨p, f, rfl, ok, rfl⟩))) rfl fun F3 H3 t3 => ?_
    have t23 := t2.trans t3
    refine fld_apart (K := K) (i := 0) (ns := []) (ws := []) fx.ic_Curve.cl fx.n_Curve_prime (by simp) (by simp) (s.step t23) (ev_var (i := 1) rfl) rfl del_x (t23.kp hx hf).2 (t23.kp hx hf).1 rfl fun v4 F4 H4 t4 hf4 s4 r4 hx4 => ?_
    refine fld_apart (K := K) (i := 0) (ns := ["_prime"]) (ws := [v4]) fx.ic_Curve.cl fx.n_Curve_polynomial (by decide +kernel) (by simp) s4 (ev_pub (en_listof (ev_var (i := 2) rfl))) rfl del_x hf4 hx4 rfl fun v5 F5 H5 t5 hf5 s5 r5 hx5 => ?_
    exact init_end s5.st hf5 hx5 rfl (Reps.cons (Rep.mono t5.ff _ _ r4) (Reps.one r5)) q
abbrev s_Curve_prime : Stmt := inClass (top 33) 1
abbrev nm_Curve_prime : List Str := ["self"]
theorem sc_Curve_prime : FnScope nm_Curve_prime ["self"] (defScope s_Curve_prime) := ⟨rfl, rfl, rfl, by decide +kernel, rfl, by decide +kernel, by decide +kernel⟩
theorem ok_Curve_prime (fx : Fx K mg) (F : FunD K "prime" "Curve.prime" (defArgs s_Curve_prime) (defBody s_Curve_prime) (defScope s_Curve_prime) [] [] f fd) : FnOk P w K mg base CX0 1 f fd ["self"] (spD K (p_Curve_prime K)) := by
  refine F.ok sc_Curve_prime (spD_len (n := 1) ?_) (fun cdv A outer s H vs Q E hr h => ⟨_, PSs.nox ((pss_one (ps_ret (pfld K (pv 0) rfl)))), run_def (N := nm_Curve_prime) (fun ds d p => ?_) vs H Q E h⟩)
  · rintro ds d ⟨_, rfl, _⟩; rfl
  ·
    obtain ⟨c, rfl, _, rfl⟩ := p
    show StD K _ [.val (cvD K c)] _
    exact st_ret (ev_fld fx.ic_Curve.cl fx.n_Curve_prime rfl (ev_var rfl))
abbrev s_Curve_polynomial : Stmt := inClass (top 33) 2
abbrev nm_Curve_polynomial : List Str := ["self"]
theorem sc_Curve_polynomial : FnScope nm_Curve_polynomial ["self"] (defScope s_Curve_polynomial) := ⟨rfl, rfl, rfl, by decide +kernel, rfl, by decide +kernel, by decide +kernel⟩
theorem ok_Curve_polynomial (fx : Fx K mg) (F : FunD K "polynomial" "Curve.polynomial" (defArgs s_Curve_polynomial) (defBody s_Curve_polynomial) (defScope s_Curve_polynomial) [] [] f fd) : FnOk P w K mg base CX0 1 f fd ["self"] (spD K (p_Curve_polynomial K)) := by
  refine F.ok sc_Curve_polynomial (spD_len (n := 1) ?_) (fun cdv A outer s H vs Q E hr h => ⟨_, PSs.nox ((pss_one (ps_ret (pe_callTy (lstOf K) (by rfl) fx.b_list (by decide +kernel) (pa_cons (pfld K (pv 0) rfl) pa_nil))))), run_def (N := nm_Curve_polynomial) (fun ds d p => ?_) vs H Q E h⟩)
  · rintro ds d ⟨_, rfl, _⟩; rfl
  ·
    obtain ⟨c, rfl, _, rfl⟩ := p
    show StD K _ [.val (cvD K c)] _
    exact st_ret (ev_pub (en_listof (ev_fld fx.ic_Curve.cl fx.n_Curve_polynomial rfl (ev_var rfl))))
abbrev s_Curve___eq__ : Stmt := inClass (top 33) 4
abbrev nm_Curve___eq__ : List Str := ["self", "other"]
theorem sc_Curve___eq__ : FnScope nm_Curve___eq__ ["self", "other"] (defScope s_Curve___eq__) := ⟨rfl, rfl, rfl, by decide +kernel, rfl, by decide +kernel, by decide +kernel⟩
theorem ok_Curve___eq__ (fx : Fx K mg) (F : FunD K "__eq__" "Curve.__eq__" (defArgs s_Curve___eq__) (defBody s_Curve___eq__) (defScope s_Curve___eq__) [] [] f fd) : FnOk P w K mg base CX0 1 f fd ["self", "other"] (spD K (p_Curve___eq__ K)) := by
  refine F.ok sc_Curve___eq__ (spD_len (n := 2) ?_) (fun cdv A outer s H vs Q E hr h => ⟨_, PSs.nox ((pss_cons (ps_if (pt_not (pt_val (pe_callB (call_isC fx.ic_Curve) (by rfl) fx.b_isinstance (by decide +kernel) (pa_cons (pv 1) (pa_cons (pe_gc rfl fx.g_Curve) pa_nil))))) (pss_one (ps_ret pe_bl)) pss_nil)
      (pss_one (ps_ret (pe_and (pe_cmpR op_eq (pfld K (pv 0) rfl) (pfld K (pv 1) rfl) (nomark _)) (pe_one (pe_cmpR (opEq K hr.units) (pfld K (pv 0) rfl) (pfld K (pv 1) rfl) (nomark _)))))))), run_def (N := nm_Curve___eq__) (fun ds d p => ?_) vs H Q E h⟩)
  · rintro ds d ⟨_, rfl, _⟩; rfl
  ·
    obtain ⟨c, rfl, _, rfl⟩ := p
    show StD K _ [.val (cvD K c), .val (cvD K c)] _
    refine st_ifS (eb_not (eb_val (ev_isC (ev_var rfl)))) (fun h => nomatch h) fun _ => st_seqN ?_
    exact st_ret ((ev_andV (ev_eqI (ev_fld fx.ic_Curve.cl fx.n_Curve_prime rfl (ev_var rfl)) (ev_fld fx.ic_Curve.cl fx.n_Curve_prime rfl (ev_var rfl))) fun _ => ev_eqL (a := c.2) (b := c.2) like_ints (by decide) (ev_fld fx.ic_Curve.cl fx.n_Curve_polynomial rfl (ev_var rfl)).h (ev_fld fx.ic_Curve.cl fx.n_Curve_polynomial rfl (ev_var rfl)).h).cast (by simp))
abbrev s_is_curve_poly : Stmt := top 34
abbrev nm_is_curve_poly : List Str := ["p", "value"]
theorem sc_is_curve_poly : FnScope nm_is_curve_poly ["p", "value"] (defScope s_is_curve_poly) := ⟨rfl, rfl, rfl, by decide +kernel, rfl, by decide +kernel, by decide +kernel⟩
theorem ok_is_curve_poly (fx : Fx K mg) (c_common_of : Cal P w K mg base 5 "common_of" (spD K p_common_of) []) (c_is_poly_list : Cal P w K mg base 3 "is_poly_list" (spD K p_is_poly_list) []) (c_slope_of : Cal P w K mg base 2 "slope_of" (spD K p_slope_of) []) (F : FunD K "is_curve_poly" "is_curve_poly" (defArgs s_is_curve_poly) (defBody s_is_curve_poly) (defScope s_is_curve_poly) [] [] f fd) : FnOk P w K mg base CX0 6 f fd ["p", "value"] (spD K p_is_curve_poly) := by
  refine F.ok sc_is_curve_poly (spD_len (n := 2) ?_) (fun cdv A outer s H vs Q E hr h => ⟨_, PSs.nox ((pss_cons (ps_if (PW.pt (pw_or (pt_not (pt_val (pe_c c_is_poly_list hr (by decide) rfl (pa_cons (pv 0) (pa_cons (pv 1) pa_nil))))) (pw_or (pt_cmpR (niS K) (pe_callB (lenS K) (by rfl) fx.b_len (by decide +kernel) (pa_cons (pv 1) pa_nil)) (pe_lst (pa_cons pe_int (pa_cons pe_int (pa_cons pe_int (pa_cons pe_int pa_nil))))) (by rfl)) (pw_or1 (pt_cmpR op_ne (pe_ix (ixl K) (pv 1) (pe_un un_neg pe_int) (fun _ _ => rfl)) pe_int (nomark _)))))) (pss_one (ps_ret pe_bl)) pss_nil)
      (pss_one (ps_ret (pe_cmpR (opEq K hr.units) (pe_c c_common_of hr (by decide) rfl (pa_cons (pv 0) (pa_cons (pv 1) (pa_cons (pe_c c_slope_of hr (by decide) rfl (pa_cons (pv 0) (pa_cons (pv 1) pa_nil))) pa_nil)))) (pe_lst (pa_cons pe_int pa_nil)) (nomark _)))))), run_def (N := nm_is_curve_poly) (fun ds d p => ?_) vs H Q E h⟩)
  · rintro ds d ⟨_, _, rfl, _⟩; rfl
  ·
    obtain ⟨p, f, rfl, ok, rfl⟩ := p
    have hLM : LM = 1000000 := rfl
    have hpp := ok.pm.pos
    have hln := ok.ln
    simp only at hln
    have hne : f ≠ [] := by intro z; rw [z] at hln; simp at hln
    have hdl := pder_len (p := p) (a := f)
    show StD K _ [.val (.int p), .val (inD f)] _
    refine st_ifS (x := false) ((eb_or (eb_not (eb_val (ev_call (ea2 (ev_var rfl) (ev_var rfl)) ⟨p, f, rfl, hpp, ok.nr, by omega, rfl⟩))) fun _ => eb_or (eb_test (ev_inL (neg := true) (ns := [2, 4, 6, 8]) (ev_lenL (ev_var rfl).h) (ev_pub (en_lst (ea4 ev_int ev_int ev_int ev_int) (by show 4 ≤ sizeLine; decide))))) fun _ => eb_test (ev_neI (ev_ixN hne (ev_var rfl) ev_m1) ev_int)).cast ?_) (fun h => nomatch h) fun _ => st_seqN ?_
    · have := ok.mo
      simp only at this
      rw [this]
      rcases hln with h | h | h | h <;> rw [h] <;> decide
    · refine st_ret ((ev_eqI1 (ev_call (ea3 (ev_var rfl) (ev_var rfl) (ev_call (ea2 (ev_var rfl) (ev_var rfl)) ⟨p, f, rfl, hpp, by omega, rfl⟩)) ⟨p, f, _, rfl, ok.pm, by omega, ok.nr, trim_nrm hpp _, rfl⟩).h).cast ?_)
      have := ok.sq
      simp only at this
      rw [this]
      rfl
end
end Cw
set_option maxHeartbeats 4000000
namespace Cw
open PySem PySem.Spec PyProof.Rows L2
open C8 (Cal Met Mak pe_c pe_mk pe_mt pe_mt0 pe_gc InsC call_isC)
section
variable {P : Program} {w : World} {K : Fg} {mg : Str → Option Value} {base : Heap} {f : Addr} {fd : FuncData}
abbrev s_power_of : Stmt := top 54
abbrev nm_power_of : List Str := ["function", "exponent"]
theorem sc_power_of : FnScope nm_power_of ["function", "exponent"] (defScope s_power_of) := ⟨rfl, rfl, rfl, by decide +kernel, rfl, by decide +kernel, by decide +kernel⟩
theorem ok_power_of (fx : Fx K mg) (c_check_function : Cal P w K mg base 1 "check_function" (spD K (p_check_function K)) []) (c_check_number : Cal P w K mg base 3 "check_number" (spD K p_check_number) []) (c_raised_to : Cal P w K mg base 11 "raised_to" (spD K (p_raised_to K)) []) (c_is_nought : Cal P w K mg base 2 "is_nought" (spD K (p_is_nought K)) []) (c_back_of : Cal P w K mg base 10 "back_of" (spD K (p_back_of K)) []) (F : FunD K "power_of" "power_of" (defArgs s_power_of) (defBody s_power_of) (defScope s_power_of) [] [] f fd) : FnOk P w K mg base CX0 12 f fd ["function", "exponent"] (spD K (p_power_of_fn K)) := by
  refine F.ok sc_power_of (spD_len (n := 2) ?_) (fun cdv A outer s H vs Q E hr h => ⟨_, PSs.nox ((pss_cons (ps_expr (pe_c c_check_function hr (by decide) rfl (pa_cons (pv 0) pa_nil)))
      (pss_cons (ps_expr (pe_c c_check_number hr (by decide) rfl (pa_cons (pv 1) (pa_cons (pe_un un_neg (pe_gc rfl fx.g_MOST_EXPONENT)) (pa_cons (pe_gc rfl fx.g_MOST_EXPONENT) pa_nil)))))
      (pss_cons (ps_if (PW.pt (pw_and (pt_cmpR op_lt (pv 1) pe_int (nomark _)) (pw_and1 (pt_val (pe_c c_is_nought hr (by decide) rfl (pa_cons (pv 0) pa_nil)))))) (pss_one ps_never) pss_nil)
      (pss_one (ps_ret (pe_c c_raised_to hr (by decide) rfl (pa_cons (pe_ifExp (pt_cmpR op_ge (pv 1) pe_int (nomark _)) (pv 0) (pe_c c_back_of hr (by decide) rfl (pa_cons (pv 0) pa_nil))) (pa_cons (pe_callB call_abs (by rfl) fx.b_abs (by decide +kernel) (pa_cons (pv 1) pa_nil)) pa_nil))))))))), run_def (N := nm_power_of) (fun ds d p => ?_) vs H Q E h⟩)
  · rintro ds d ⟨_, _, _, rfl, _⟩; rfl
  ·
    obtain ⟨c, T, n, rfl, ⟨cv, hT, h0, h1⟩, rfl⟩ := p
    show StD K _ [.val (fnD K c T), .val (.int n)] _
    refine st_seq (st_drop (ev_call (ea1 (ev_var rfl)) ⟨c, T, rfl, trivial, rfl⟩)) ?_
    refine st_seq (st_drop (ev_call (ea3 (ev_var rfl) (ev_neg (i := 20) (ev_glo (d := .int 20) fun _ => rfl)) (ev_glo (d := .int 20) fun _ => rfl)) ⟨n, -20, 20, rfl, by omega, h1, rfl⟩)) ?_
    refine st_ifS (x := false) ((eb_and (x := false) (y := false) ((eb_test (ev_lt (ev_var rfl) ev_int)).cast (by simp; omega)) (fun z => nomatch z)).cast (c := false) rfl) (fun h => nomatch h) fun _ => st_seqN ?_
    exact st_ret (ev_call (ea2 (ev_if (x := true) ((eb_test (ev_ge (ev_var rfl) ev_int)).cast (by simp; omega)) (fun _ => ev_var rfl) (fun z => nomatch z)) ((ev_abs (ev_var rfl)).cast (e := .int n) (by rw [if_neg (by omega)]))) ⟨c, T, n, rfl, ⟨cv, hT, h0, h1⟩, rfl⟩)
abbrev s_Function___init__ : Stmt := inClass (top 37) 0
abbrev nm_Function___init__ : List Str := ["self", "curve", "top", "side", "bottom", "part"]
theorem sc_Function___init__ : FnScope nm_Function___init__ ["self", "curve", "top", "side", "bottom"] (defScope s_Function___init__) := ⟨rfl, rfl, rfl, by decide +kernel, rfl, by decide +kernel, by decide +kernel⟩
theorem ok_Function___init__ (fx : Fx K mg) (c_least_parts : Cal P w K mg base 6 "least_parts" (spD K p_least_parts) []) (c_check_poly : Cal P w K mg base 4 "check_poly" (spD K p_check_poly) []) (m_Curve_prime : Met P w K mg base 1 (He.ga K "Curve") "prime" (spD K (p_Curve_prime K)) []) (F : FunD K "__init__" "Function.__init__" (defArgs s_Function___init__) (defBody s_Function___init__) (defScope s_Function___init__) [] [] f fd) : FnOk P w K mg base CX0 7 f fd ["self", "curve", "top", "side", "bottom"] (spI K (He.ga K "Function") (p_Function___init__ K)) := by
  refine F.ok sc_Function___init__ ?_ (fun cdv A outer s H vs Q E hr h => ⟨_, PSs.nox ((pss_cons (ps_if (pt_not (pt_val (pe_callB (call_isC fx.ic_Curve) (by rfl) fx.b_isinstance (by decide +kernel) (pa_cons (pv 1) (pa_cons (pe_gc rfl fx.g_Curve) pa_nil))))) (pss_one ps_never) pss_nil)
      (pss_cons (ps_for PassesOwn.never rfl (pit K (pe_tup (pa_cons (pv 2) (pa_cons (pv 3) (pa_cons (pv 4) pa_nil))))) (pg_name (i := 5) sc_Function___init__.nd rfl (by first | exact Or.inl rfl | exact Or.inr rfl))
      (pss_one (ps_expr (pe_c c_check_poly hr (by decide) rfl (pa_cons (pe_mt0 m_Curve_prime hr (by decide) (pv 1)) (pa_cons (pv 5) pa_nil))))))
      (pss_cons (ps_if (pt_cmpR (opEq K hr.units) (pv 4) (pe_lst pa_nil) (nomark _)) (pss_one ps_never) pss_nil)
      (pss_cons (ps_fld (pv 0) (pv 1) rfl)
      (pss_one (ps_fld (pv 0) (pe_c c_least_parts hr (by decide) rfl (pa_cons (pe_mt0 m_Curve_prime hr (by decide) (pv 1)) (pa_cons (pv 2) (pa_cons (pv 3) (pa_cons (pv 4) pa_nil))))) rfl))))))), ?_⟩)
  · rintro vs H Q E ⟨F, x, dx, us, ds, ns, fs, rfl, _, r, _, _, ⟨c, t, s, b, rfl, _⟩, _⟩
    simp [r.len]
  · obtain ⟨F1, x, dx, us, ds, ns, fs, rfl, sf, r, hx, hf, ⟨c, t, s, b, rfl, ⟨cv, nt, ns', nb, hb, l1, l2, l3⟩, hd⟩, q⟩ := h
    cases hd
    have hLM : LM = 1000000 := rfl
    have sk := sokI (N := nm_Function___init__) sf hf r
    refine raw_no sk (eb_not (eb_val (ev_isC (ev_var rfl)))) rfl fun F2 H2 t2 => ?_
    refine raw_for (j := 5) rfl (it_tup (ev_tup (ea3 (ev_var (i := 2) rfl) (ev_var (i := 3) rfl) (ev_var (i := 4) rfl)) (by show 3 ≤ sizeLine; decide))) (fun d hd => ?_) (sk.step t2) fun σ' F3 H3 t3 s3 hs => ?_
    · simp only [List.mem_cons, List.not_mem_nil, or_false] at hd
      rcases hd with rfl | rfl | rfl
      · exact ⟨_, ev_call (ea2 (ev_meth (C := He.ga K "Curve") (by decide +kernel) (ev_var rfl) ea_nil ⟨c, rfl, trivial, rfl⟩) (ev_var rfl)) ⟨c.1, t, rfl, cv.pos, nt, l1, rfl⟩⟩
      · exact ⟨_, ev_call (ea2 (ev_meth (C := He.ga K "Curve") (by decide +kernel) (ev_var rfl) ea_nil ⟨c, rfl, trivial, rfl⟩) (ev_var rfl)) ⟨c.1, s, rfl, cv.pos, ns', l2, rfl⟩⟩
      · exact ⟨_, ev_call (ea2 (ev_meth (C := He.ga K "Curve") (by decide +kernel) (ev_var rfl) ea_nil ⟨c, rfl, trivial, rfl⟩) (ev_var rfl)) ⟨c.1, b, rfl, cv.pos, nb, l3, rfl⟩⟩
    refine raw_no s3 (eb_test (ev_eq0 (ev_var rfl).h)) (by simpa using hb) fun F4 H4 t4 => ?_
    have t234 := (t2.trans t3).trans t4
    refine fld_apart (K := K) (i := 0) (ns := []) (ws := []) fx.ic_Function.cl fx.n_Function_curve (by simp) (by simp) (s3.step t4) (ev_var (i := 1) rfl) (by rw [hs 0 (by decide)]; rfl) del_x (t234.kp hx hf).2 (t234.kp hx hf).1 rfl fun v5 F5 H5 t5 hf5 s5 r5 hx5 => ?_
    refine fld_apart (K := K) (i := 0) (ns := ["_curve"]) (ws := [v5]) fx.ic_Function.cl fx.n_Function_parts (by decide +kernel) (by simp) s5 (ev_call (ea4 (ev_meth (C := He.ga K "Curve") (by decide +kernel) (ev_var (i := 1) rfl) ea_nil ⟨c, rfl, trivial, rfl⟩) (ev_var (i := 2) rfl) (ev_var (i := 3) rfl) (ev_var (i := 4) rfl)) ⟨c.1, t, s, b, rfl, ⟨cv.pm, nt, ns', nb, hb, by omega, by omega, by omega⟩, rfl⟩) (by rw [hs 0 (by decide)]; rfl) del_x hf5 hx5 rfl fun v6 F6 H6 t6 hf6 s6 r6 hx6 => ?_
    exact init_end s6.st hf6 hx6 rfl (Reps.cons (Rep.mono t6.ff _ _ r5) (Reps.one r6)) q
abbrev s_Function_curve : Stmt := inClass (top 37) 1
abbrev nm_Function_curve : List Str := ["self"]
theorem sc_Function_curve : FnScope nm_Function_curve ["self"] (defScope s_Function_curve) := ⟨rfl, rfl, rfl, by decide +kernel, rfl, by decide +kernel, by decide +kernel⟩
theorem ok_Function_curve (fx : Fx K mg) (F : FunD K "curve" "Function.curve" (defArgs s_Function_curve) (defBody s_Function_curve) (defScope s_Function_curve) [] [] f fd) : FnOk P w K mg base CX0 1 f fd ["self"] (spD K (p_Function_curve K)) := by
  refine F.ok sc_Function_curve (spD_len (n := 1) ?_) (fun cdv A outer s H vs Q E hr h => ⟨_, PSs.nox ((pss_one (ps_ret (pfld K (pv 0) rfl)))), run_def (N := nm_Function_curve) (fun ds d p => ?_) vs H Q E h⟩)
  · rintro ds d ⟨_, _, rfl, _⟩; rfl
  ·
    obtain ⟨c, T, rfl, _, rfl⟩ := p
    show StD K _ [.val (fnD K c T)] _
    exact st_ret (ev_fld fx.ic_Function.cl fx.n_Function_curve rfl (ev_var rfl))
abbrev s_Function_top : Stmt := inClass (top 37) 2
abbrev nm_Function_top : List Str := ["self"]
theorem sc_Function_top : FnScope nm_Function_top ["self"] (defScope s_Function_top) := ⟨rfl, rfl, rfl, by decide +kernel, rfl, by decide +kernel, by decide +kernel⟩
theorem ok_Function_top (fx : Fx K mg) (F : FunD K "top" "Function.top" (defArgs s_Function_top) (defBody s_Function_top) (defScope s_Function_top) [] [] f fd) : FnOk P w K mg base CX0 1 f fd ["self"] (spD K (p_Function_top K)) := by
  refine F.ok sc_Function_top (spD_len (n := 1) ?_) (fun cdv A outer s H vs Q E hr h => ⟨_, PSs.nox ((pss_one (ps_ret (pe_callTy (lstOf K) (by rfl) fx.b_list (by decide +kernel) (pa_cons (pe_ix (ixl K) (pfld K (pv 0) rfl) pe_int (fun _ _ => rfl)) pa_nil))))), run_def (N := nm_Function_top) (fun ds d p => ?_) vs H Q E h⟩)
  · rintro ds d ⟨_, _, rfl, _⟩; rfl
  ·
    obtain ⟨c, T, rfl, _, rfl⟩ := p
    show StD K _ [.val (fnD K c T)] _
    exact st_ret (ev_pub (en_listof (ev_ixL (d := inD T.1) rfl (ev_fld (d := lsD inD [T.1, T.2.1, T.2.2]) fx.ic_Function.cl fx.n_Function_parts rfl (ev_var rfl)) ev_int)))
abbrev s_Function_side : Stmt := inClass (top 37) 3
abbrev nm_Function_side : List Str := ["self"]
theorem sc_Function_side : FnScope nm_Function_side ["self"] (defScope s_Function_side) := ⟨rfl, rfl, rfl, by decide +kernel, rfl, by decide +kernel, by decide +kernel⟩
theorem ok_Function_side (fx : Fx K mg) (F : FunD K "side" "Function.side" (defArgs s_Function_side) (defBody s_Function_side) (defScope s_Function_side) [] [] f fd) : FnOk P w K mg base CX0 1 f fd ["self"] (spD K (p_Function_side K)) := by
  refine F.ok sc_Function_side (spD_len (n := 1) ?_) (fun cdv A outer s H vs Q E hr h => ⟨_, PSs.nox ((pss_one (ps_ret (pe_callTy (lstOf K) (by rfl) fx.b_list (by decide +kernel) (pa_cons (pe_ix (ixl K) (pfld K (pv 0) rfl) pe_int (fun _ _ => rfl)) pa_nil))))), run_def (N := nm_Function_side) (fun ds d p => ?_) vs H Q E h⟩)
  · rintro ds d ⟨_, _, rfl, _⟩; rfl
  ·
    obtain ⟨c, T, rfl, _, rfl⟩ := p
    show StD K _ [.val (fnD K c T)] _
    exact st_ret (ev_pub (en_listof (ev_ixL (d := inD T.2.1) rfl (ev_fld (d := lsD inD [T.1, T.2.1, T.2.2]) fx.ic_Function.cl fx.n_Function_parts rfl (ev_var rfl)) ev_int)))
abbrev s_Function_bottom : Stmt := inClass (top 37) 4
abbrev nm_Function_bottom : List Str := ["self"]
theorem sc_Function_bottom : FnScope nm_Function_bottom ["self"] (defScope s_Function_bottom) := ⟨rfl, rfl, rfl, by decide +kernel, rfl, by decide +kernel, by decide +kernel⟩
theorem ok_Function_bottom (fx : Fx K mg) (F : FunD K "bottom" "Function.bottom" (defArgs s_Function_bottom) (defBody s_Function_bottom) (defScope s_Function_bottom) [] [] f fd) : FnOk P w K mg base CX0 1 f fd ["self"] (spD K (p_Function_bottom K)) := by
  refine F.ok sc_Function_bottom (spD_len (n := 1) ?_) (fun cdv A outer s H vs Q E hr h => ⟨_, PSs.nox ((pss_one (ps_ret (pe_callTy (lstOf K) (by rfl) fx.b_list (by decide +kernel) (pa_cons (pe_ix (ixl K) (pfld K (pv 0) rfl) pe_int (fun _ _ => rfl)) pa_nil))))), run_def (N := nm_Function_bottom) (fun ds d p => ?_) vs H Q E h⟩)
  · rintro ds d ⟨_, _, rfl, _⟩; rfl
  ·
    obtain ⟨c, T, rfl, _, rfl⟩ := p
    show StD K _ [.val (fnD K c T)] _
    exact st_ret (ev_pub (en_listof (ev_ixL (d := inD T.2.2) rfl (ev_fld (d := lsD inD [T.1, T.2.1, T.2.2]) fx.ic_Function.cl fx.n_Function_parts rfl (ev_var rfl)) ev_int)))
abbrev s_Function___eq__ : Stmt := inClass (top 37) 5
abbrev nm_Function___eq__ : List Str := ["self", "other"]
theorem sc_Function___eq__ : FnScope nm_Function___eq__ ["self", "other"] (defScope s_Function___eq__) := ⟨rfl, rfl, rfl, by decide +kernel, rfl, by decide +kernel, by decide +kernel⟩
theorem ok_Function___eq__ (fx : Fx K mg) (m_Curve___eq__ : Met P w K mg base 1 (He.ga K "Curve") "__eq__" (spD K (p_Curve___eq__ K)) []) (F : FunD K "__eq__" "Function.__eq__" (defArgs s_Function___eq__) (defBody s_Function___eq__) (defScope s_Function___eq__) [] [] f fd) : FnOk P w K mg base CX0 2 f fd ["self", "other"] (spD K (p_Function___eq__ K)) := by
  refine F.ok sc_Function___eq__ (spD_len (n := 2) ?_) (fun cdv A outer s H vs Q E hr h => ⟨_, PSs.nox ((pss_cons (ps_if (pt_not (pt_val (pe_callB (call_isC fx.ic_Function) (by rfl) fx.b_isinstance (by decide +kernel) (pa_cons (pv 1) (pa_cons (pe_gc rfl fx.g_Function) pa_nil))))) (pss_one (ps_ret pe_bl)) pss_nil)
      (pss_one (ps_ret (pe_and (pe_cmpR (opOwn m_Curve___eq__ hr (by decide)) (pfld K (pv 0) rfl) (pfld K (pv 1) rfl) (nomark _)) (pe_one (pe_cmpR (opEq K hr.units) (pfld K (pv 0) rfl) (pfld K (pv 1) rfl) (nomark _)))))))), run_def (N := nm_Function___eq__) (fun ds d p => ?_) vs H Q E h⟩)
  · rintro ds d ⟨_, _, rfl, _⟩; rfl
  ·
    obtain ⟨c, T, rfl, _, rfl⟩ := p
    show StD K _ [.val (fnD K c T), .val (fnD K c T)] _
    refine st_ifS (eb_not (eb_val (ev_isC (ev_var rfl)))) (fun h => nomatch h) fun _ => st_seqN ?_
    exact st_ret ((ev_andV (ev_own (ev_fld fx.ic_Function.cl fx.n_Function_curve rfl (ev_var rfl)) (ev_fld fx.ic_Function.cl fx.n_Function_curve rfl (ev_var rfl)) ⟨c, rfl, trivial, rfl⟩) fun _ => ev_eqL (a := [T.1, T.2.1, T.2.2]) (b := [T.1, T.2.1, T.2.2]) (like_lst like_ints) (by decide) (ev_fld fx.ic_Function.cl fx.n_Function_parts rfl (ev_var rfl)).h (ev_fld fx.ic_Function.cl fx.n_Function_parts rfl (ev_var rfl)).h).cast (by simp))
abbrev s_least_parts : Stmt := top 38
abbrev nm_least_parts : List Str := ["p", "top", "side", "bottom", "common", "parts", "back", "part"]
theorem sc_least_parts : FnScope nm_least_parts ["p", "top", "side", "bottom"] (defScope s_least_parts) := ⟨rfl, rfl, rfl, by decide +kernel, rfl, by decide +kernel, by decide +kernel⟩
theorem ok_least_parts (fx : Fx K mg) (c_common_of : Cal P w K mg base 5 "common_of" (spD K p_common_of) []) (c_inverse : Cal P w K mg base 1 "inverse" (spD K p_inverse) []) (c_whole_part : Cal P w K mg base 3 "whole_part" (spD K p_whole_part) []) (c_scaled : Cal P w K mg base 2 "scaled" (spD K p_scaled) []) (F : FunD K "least_parts" "least_parts" (defArgs s_least_parts) (defBody s_least_parts) (defScope s_least_parts) [] [] f fd) : FnOk P w K mg base CX0 6 f fd ["p", "top", "side", "bottom"] (spD K p_least_parts) := by
  refine F.ok sc_least_parts (spD_len (n := 4) ?_) (fun cdv A outer s H vs Q E hr h => ⟨_, PSs.nox ((pss_cons (ps_set (i := 4) sc_least_parts.nd rfl (by first | exact Or.inl rfl | exact Or.inr rfl) (pe_c c_common_of hr (by decide) rfl (pa_cons (pv 0) (pa_cons (pe_c c_common_of hr (by decide) rfl (pa_cons (pv 0) (pa_cons (pv 1) (pa_cons (pv 2) pa_nil)))) (pa_cons (pv 3) pa_nil)))))
      (pss_cons (ps_setLc (i := 5) (own := [("part", 7)]) rfl sc_least_parts.nd rfl rfl (sw_true rfl rfl rfl (by decide +kernel)) (pit K (pe_tup (pa_cons (pv 1) (pa_cons (pv 2) (pa_cons (pv 3) pa_nil))))) (blkOk_by (N := nm_least_parts) (sc := defScope s_least_parts) (by decide +kernel)) (fun _ _ _ _ _ => (pg_name (i := 7) sc_least_parts.nd rfl (by first | exact Or.inl rfl | exact Or.inr rfl))) (fun _ _ _ _ _ => pts_nil) (fun _ _ _ _ _ => (pe_c c_whole_part hr (by decide) rfl (pa_cons (pv 0) (pa_cons (pv 7) (pa_cons (pv 4) pa_nil))))))
      (pss_cons (ps_set (i := 6) sc_least_parts.nd rfl (by first | exact Or.inl rfl | exact Or.inr rfl) (pe_c c_inverse hr (by decide) rfl (pa_cons (pv 0) (pa_cons (pe_ix (ixl K) (pe_ix (ixl K) (pv 5) pe_int (fun _ _ => rfl)) (pe_un un_neg pe_int) (fun _ _ => rfl)) pa_nil))))
      (pss_one (ps_ret (pe_lc (own := [("part", 7)]) rfl sc_least_parts.nd (pil K (pv 5)) (blkOk_by (N := nm_least_parts) (sc := defScope s_least_parts) (by decide +kernel)) (fun _ _ _ _ _ => (pg_name (i := 7) sc_least_parts.nd rfl (by first | exact Or.inl rfl | exact Or.inr rfl))) (fun _ _ _ _ _ => pts_nil) (fun _ _ _ _ _ => (pe_c c_scaled hr (by decide) rfl (pa_cons (pv 0) (pa_cons (pv 7) (pa_cons (pv 6) pa_nil)))))))))))), run_def (N := nm_least_parts) (fun ds d p => ?_) vs H Q E h⟩)
  · rintro ds d ⟨_, _, _, _, rfl, _⟩; rfl
  ·
    obtain ⟨p, t, s, b, rfl, ⟨hp, nt, ns, nb, hb, l1, l2, l3⟩, rfl⟩ := p
    have hLM : LM = 1000000 := rfl
    have hpg := hp.ge
    have hpl := hp.le
    have g2 := gcd_two hp nt ns
    have g := gcd_three hp nt ns nb hb
    have gl1 := pgcd_len hp nt ns
    have gl2 := dvd_len hp nb g.nr hb g.d3
    have q3 := quo_ne hp nb g.nr g.ne g.d3 hb
    have nq : Nrm p (pquo p b (pgcd p (pgcd p t s) b)) := pquo_nrm hp.pos
    have hm := nq.lmod q3
    have hlb := nq.lst q3
    obtain ⟨k1, k2, k3⟩ := pinv_mem hp hm
    have ql1 := pquo_len (p := p) (a := t) (b := pgcd p (pgcd p t s) b)
    have ql2 := pquo_len (p := p) (a := s) (b := pgcd p (pgcd p t s) b)
    have ql3 := pquo_len (p := p) (a := b) (b := pgcd p (pgcd p t s) b)
    unfold leastT
    show StD K _ [.val (.int p), .val (inD t), .val (inD s), .val (inD b), .un, .un, .un, .un] _
    refine st_seq (st_set (ev_call (ea3 (ev_var rfl) (ev_call (ea3 (ev_var rfl) (ev_var rfl) (ev_var rfl)) ⟨p, t, s, rfl, hp, by omega, nt, ns, rfl⟩) (ev_var rfl)) ⟨p, _, b, rfl, hp, by omega, g2.1, nb, rfl⟩)) ?_
    generalize pgcd p (pgcd p t s) b = gg at *
    show StD K _ [.val (.int p), .val (inD t), .val (inD s), .val (inD b), .val (inD gg), .un, .un, .un] _
    refine st_seq (st_setN (en_lcT (as := [t, s, b]) (enc := inD) inD (fun x => pquo p x gg) (by show 3 ≤ sizeLine; decide) (it_tup (ev_tup (ea3 (ev_var (i := 1) rfl) (ev_var (i := 2) rfl) (ev_var (i := 3) rfl)) (by show 3 ≤ sizeLine; decide))) fun pre x post e => ⟨_, _, tg_name, fun _ h => h, ev_call (ea3 (ev_var rfl) (ev_var rfl) (ev_var rfl)) ⟨p, x, gg, rfl, hp, ?_, by omega, g.ne, g.nr, rfl⟩⟩)) ?_
    · have hm := mem_mid e
      simp only [List.mem_cons, List.not_mem_nil, or_false] at hm
      rcases hm with rfl | rfl | rfl <;> omega
    show StD K _ [.val (.int p), .val (inD t), .val (inD s), .val (inD b), .val (inD gg), .own [inD (pquo p t gg), inD (pquo p s gg), inD (pquo p b gg)], .un, .un] _
    refine st_seq (st_set (ev_call (ea2 (ev_var rfl) (ev_ixN q3 (ev_ixO (d := inD (pquo p b gg)) rfl rfl ev_int) ev_m1)) ⟨p, _, rfl, hp, hm, by omega, rfl⟩)) ?_
    generalize pinv p (lastI (pquo p b gg)) = iv at *
    show StD K _ [.val (.int p), .val (inD t), .val (inD s), .val (inD b), .val (inD gg), .own [inD (pquo p t gg), inD (pquo p s gg), inD (pquo p b gg)], .val (.int iv), .un] _
    refine st_pub (i := 5) rfl ?_
    show StD K _ [.val (.int p), .val (inD t), .val (inD s), .val (inD b), .val (inD gg), .val (lsD inD [pquo p t gg, pquo p s gg, pquo p b gg]), .val (.int iv), .un] _
    refine st_ret (ev_pub (en_lcT (as := [pquo p t gg, pquo p s gg, pquo p b gg]) (enc := inD) inD (fun x => pscl p x iv) (by show 3 ≤ sizeLine; decide) (it_list (ev_var (i := 5) rfl)) fun pre x post e => ⟨_, _, tg_name, fun _ h => h, ev_call (ea3 (ev_var rfl) (ev_var rfl) (ev_var rfl)) ⟨p, x, iv, rfl, hp.pos, ?_, ⟨by omega, by omega⟩, rfl⟩⟩))
    have hm := mem_mid e
    simp only [List.mem_cons, List.not_mem_nil, or_false] at hm
    rcases hm with rfl | rfl | rfl <;> omega
abbrev s_made : Stmt := top 39
abbrev nm_made : List Str := ["curve", "top", "side", "bottom", "found"]
theorem sc_made : FnScope nm_made ["curve", "top", "side", "bottom"] (defScope s_made) := ⟨rfl, rfl, rfl, by decide +kernel, rfl, by decide +kernel, by decide +kernel⟩
theorem ok_made (fx : Fx K mg) (c_least_parts : Cal P w K mg base 6 "least_parts" (spD K p_least_parts) []) (m_Curve_prime : Met P w K mg base 1 (He.ga K "Curve") "prime" (spD K (p_Curve_prime K)) []) (m_Function : Mak P w K mg base 7 "Function" (He.ga K "Function") (spI K (He.ga K "Function") (p_Function___init__ K)) []) (F : FunD K "made" "made" (defArgs s_made) (defBody s_made) (defScope s_made) [] [] f fd) : FnOk P w K mg base CX0 9 f fd ["curve", "top", "side", "bottom"] (spD K (p_made K)) := by
  refine F.ok sc_made ?_ (fun cdv A outer s H vs Q E hr h => ⟨_, PSs.nox ((pss_cons (ps_set (i := 4) sc_made.nd rfl (by first | exact Or.inl rfl | exact Or.inr rfl) (pe_mk m_Function hr (by decide) rfl (pa_cons (pv 0) (pa_cons (pe_lst pa_nil) (pa_cons (pe_lst pa_nil) (pa_cons (pe_lst (pa_cons pe_int pa_nil)) pa_nil))))))
      (pss_cons (ps_fld (pv 4) (pe_c c_least_parts hr (by decide) rfl (pa_cons (pe_mt0 m_Curve_prime hr (by decide) (pv 0)) (pa_cons (pv 1) (pa_cons (pv 2) (pa_cons (pv 3) pa_nil))))) rfl)
      (pss_one (ps_ret (pv 4)))))), ?_⟩)
  · exact spD_len (P := p_made K) (n := 4) (by rintro ds d ⟨_, _, _, _, rfl, _⟩; rfl)
  · obtain ⟨F1, ds, d, sf, r, ⟨c, t, s, b, rfl, ⟨cv, nt, ns', nb, hb, l1, l2, l3⟩, rfl⟩, q⟩ := h
    have sk := sok0 (N := nm_made) sf r
    refine raw_mk (ea4 (ev_var (i := 0) rfl) (ev_pub en_lst0) (ev_pub en_lst0) (ev_pub (en_lst1 ev_int))) (⟨c, [], [], [1], rfl, ⟨cv, nrm_nil, nrm_nil, one_nrm cv.pm, by simp, by simp, by simp, by simp⟩, rfl⟩) sk fun x dx ws F2 H2 t2 h0 hf hx hw rr => ?_
    obtain ⟨v1, us, rfl, ra, v2, us', rfl, rb, rn⟩ := rr
    cases rn
    have s2 := (sk.step t2).setUn (j := 4) (some (.ref x)) rfl
    have h4 : ((start nm_made vs).set 4 (some (V.ref x)))[4]? = some (some (.ref x)) := List.getElem?_set_self (by rw [sk.len]; show 4 < 5; decide)
    refine fld_put (K := K) (i := 4) (ns := ["_curve", "_parts"]) (ws := [v1, v2]) (g := fun v => [v1, v]) fx.ic_Function.cl fx.n_Function_parts (by simp) s2 (ev_call (ea4 (ev_meth (C := He.ga K "Curve") (by decide +kernel) (ev_var (i := 0) rfl) ea_nil ⟨c, rfl, trivial, rfl⟩) (ev_var (i := 1) rfl) (ev_var (i := 2) rfl) (ev_var (i := 3) rfl)) ⟨c.1, t, s, b, rfl, ⟨cv.pm, nt, ns', nb, hb, l1, l2, l3⟩, rfl⟩) h4 h0 hf hx rfl (fun v => rfl) fun v F3 H3 t3 hf3 s3 r3 => ?_
    exact ⟨.ref x, h4, q (.ref x) (upd F3 x (.ins (He.ga K "Function") dx ((["_curve", "_parts"] : List Str).zip [v1, v]))) _ (s3.st.pub h0 hf3 upd_same) ⟨x, dx, [v1, v], rfl, upd_same, rfl, Reps.cons (Rep.mono (t3.ff.trans (same_new hf3)) _ _ ra) (Reps.one (Rep.mono (same_new hf3) _ _ r3))⟩⟩
abbrev s_parts_of : Stmt := top 40
abbrev nm_parts_of : List Str := ["function", "curve"]
theorem sc_parts_of : FnScope nm_parts_of ["function"] (defScope s_parts_of) := ⟨rfl, rfl, rfl, by decide +kernel, rfl, by decide +kernel, by decide +kernel⟩
theorem ok_parts_of (fx : Fx K mg) (m_Function_curve : Met P w K mg base 1 (He.ga K "Function") "curve" (spD K (p_Function_curve K)) []) (m_Curve_prime : Met P w K mg base 1 (He.ga K "Curve") "prime" (spD K (p_Curve_prime K)) []) (m_Curve_polynomial : Met P w K mg base 1 (He.ga K "Curve") "polynomial" (spD K (p_Curve_polynomial K)) []) (m_Function_top : Met P w K mg base 1 (He.ga K "Function") "top" (spD K (p_Function_top K)) []) (m_Function_side : Met P w K mg base 1 (He.ga K "Function") "side" (spD K (p_Function_side K)) []) (m_Function_bottom : Met P w K mg base 1 (He.ga K "Function") "bottom" (spD K (p_Function_bottom K)) []) (F : FunD K "parts_of" "parts_of" (defArgs s_parts_of) (defBody s_parts_of) (defScope s_parts_of) [] [] f fd) : FnOk P w K mg base CX0 2 f fd ["function"] (spD K (p_parts_of K)) := by
  refine F.ok sc_parts_of (spD_len (n := 1) ?_) (fun cdv A outer s H vs Q E hr h => ⟨_, PSs.nox ((pss_cons (ps_set (i := 1) sc_parts_of.nd rfl (by first | exact Or.inl rfl | exact Or.inr rfl) (pe_mt0 m_Function_curve hr (by decide) (pv 0)))
      (pss_one (ps_ret (pe_tup (pa_cons (pe_mt0 m_Curve_prime hr (by decide) (pv 1)) (pa_cons (pe_mt0 m_Curve_polynomial hr (by decide) (pv 1)) (pa_cons (pe_mt0 m_Function_top hr (by decide) (pv 0)) (pa_cons (pe_mt0 m_Function_side hr (by decide) (pv 0)) (pa_cons (pe_mt0 m_Function_bottom hr (by decide) (pv 0)) pa_nil)))))))))), run_def (N := nm_parts_of) (fun ds d p => ?_) vs H Q E h⟩)
  · rintro ds d ⟨_, _, rfl, _⟩; rfl
  ·
    obtain ⟨c, T, rfl, _, rfl⟩ := p
    show StD K _ [.val (fnD K c T), .un] _
    refine st_seq (st_set (ev_meth (C := He.ga K "Function") (by decide +kernel) (ev_var rfl) ea_nil ⟨c, T, rfl, trivial, rfl⟩)) ?_
    show StD K _ [.val (fnD K c T), .val (cvD K c)] _
    exact st_ret (ev_tup (ea_cons (ev_meth (C := He.ga K "Curve") (by decide +kernel) (ev_var rfl) ea_nil ⟨c, rfl, trivial, rfl⟩) (ea4 (ev_meth (C := He.ga K "Curve") (by decide +kernel) (ev_var rfl) ea_nil ⟨c, rfl, trivial, rfl⟩) (ev_meth (C := He.ga K "Function") (by decide +kernel) (ev_var rfl) ea_nil ⟨c, T, rfl, trivial, rfl⟩) (ev_meth (C := He.ga K "Function") (by decide +kernel) (ev_var rfl) ea_nil ⟨c, T, rfl, trivial, rfl⟩) (ev_meth (C := He.ga K "Function") (by decide +kernel) (ev_var rfl) ea_nil ⟨c, T, rfl, trivial, rfl⟩))) (by show 5 ≤ sizeLine; decide))
abbrev s_is_nought : Stmt := top 41
abbrev nm_is_nought : List Str := ["function"]
theorem sc_is_nought : FnScope nm_is_nought ["function"] (defScope s_is_nought) := ⟨rfl, rfl, rfl, by decide +kernel, rfl, by decide +kernel, by decide +kernel⟩
theorem ok_is_nought (fx : Fx K mg) (m_Function_top : Met P w K mg base 1 (He.ga K "Function") "top" (spD K (p_Function_top K)) []) (m_Function_side : Met P w K mg base 1 (He.ga K "Function") "side" (spD K (p_Function_side K)) []) (F : FunD K "is_nought" "is_nought" (defArgs s_is_nought) (defBody s_is_nought) (defScope s_is_nought) [] [] f fd) : FnOk P w K mg base CX0 2 f fd ["function"] (spD K (p_is_nought K)) := by
  refine F.ok sc_is_nought (spD_len (n := 1) ?_) (fun cdv A outer s H vs Q E hr h => ⟨_, PSs.nox ((pss_one (ps_ret (pe_and (pe_cmpR (opEq K hr.units) (pe_mt0 m_Function_top hr (by decide) (pv 0)) (pe_lst pa_nil) (nomark _)) (pe_one (pe_cmpR (opEq K hr.units) (pe_mt0 m_Function_side hr (by decide) (pv 0)) (pe_lst pa_nil) (nomark _))))))), run_def (N := nm_is_nought) (fun ds d p => ?_) vs H Q E h⟩)
  · rintro ds d ⟨_, _, rfl, _⟩; rfl
  ·
    obtain ⟨c, T, rfl, _, rfl⟩ := p
    show StD K _ [.val (fnD K c T)] _
    exact st_ret ((ev_andV (ev_eq0 (ev_meth (C := He.ga K "Function") (by decide +kernel) (ev_var rfl) ea_nil ⟨c, T, rfl, trivial, rfl⟩).h) fun _ => ev_eq0 (ev_meth (C := He.ga K "Function") (by decide +kernel) (ev_var rfl) ea_nil ⟨c, T, rfl, trivial, rfl⟩).h).cast (by congr 1; rw [Bool.eq_iff_iff, Bool.and_eq_true, decide_eq_true_eq, decide_eq_true_eq, decide_eq_true_iff]; exact Iff.rfl))
abbrev s_plus : Stmt := top 42
abbrev nm_plus : List Str := ["one", "other", "p", "_", "top", "side", "bottom", "tops", "sides"]
theorem sc_plus : FnScope nm_plus ["one", "other"] (defScope s_plus) := ⟨rfl, rfl, rfl, by decide +kernel, rfl, by decide +kernel, by decide +kernel⟩
theorem ok_plus (fx : Fx K mg) (c_parts_of : Cal P w K mg base 2 "parts_of" (spD K (p_parts_of K)) []) (c_added : Cal P w K mg base 2 "added" (spD K p_added) []) (c_made : Cal P w K mg base 9 "made" (spD K (p_made K)) []) (c_multiplied : Cal P w K mg base 2 "multiplied" (spD K p_multiplied) []) (m_Function_curve : Met P w K mg base 1 (He.ga K "Function") "curve" (spD K (p_Function_curve K)) []) (m_Function_bottom : Met P w K mg base 1 (He.ga K "Function") "bottom" (spD K (p_Function_bottom K)) []) (m_Function_top : Met P w K mg base 1 (He.ga K "Function") "top" (spD K (p_Function_top K)) []) (m_Function_side : Met P w K mg base 1 (He.ga K "Function") "side" (spD K (p_Function_side K)) []) (F : FunD K "plus" "plus" (defArgs s_plus) (defBody s_plus) (defScope s_plus) [] [] f fd) : FnOk P w K mg base CX0 10 f fd ["one", "other"] (spD K (p_plus K)) := by
  refine F.ok sc_plus (spD_len (n := 2) ?_) (fun cdv A outer s H vs Q E hr h => ⟨_, PSs.nox ((pss_cons (ps_asg (pe_c c_parts_of hr (by decide) rfl (pa_cons (pv 0) pa_nil)) (pgt (n := 5) K rfl (pgs_cons (pg_name (i := 2) sc_plus.nd rfl (by first | exact Or.inl rfl | exact Or.inr rfl)) (pgs_cons (pg_name (i := 3) sc_plus.nd rfl (by first | exact Or.inl rfl | exact Or.inr rfl)) (pgs_cons (pg_name (i := 4) sc_plus.nd rfl (by first | exact Or.inl rfl | exact Or.inr rfl)) (pgs_cons (pg_name (i := 5) sc_plus.nd rfl (by first | exact Or.inl rfl | exact Or.inr rfl)) (pgs_cons (pg_name (i := 6) sc_plus.nd rfl (by first | exact Or.inl rfl | exact Or.inr rfl)) pgs_nil)))))))
      (pss_cons (ps_set (i := 7) sc_plus.nd rfl (by first | exact Or.inl rfl | exact Or.inr rfl) (pe_c c_added hr (by decide) rfl (pa_cons (pv 2) (pa_cons (pe_c c_multiplied hr (by decide) rfl (pa_cons (pv 2) (pa_cons (pv 4) (pa_cons (pe_mt0 m_Function_bottom hr (by decide) (pv 1)) pa_nil)))) (pa_cons (pe_c c_multiplied hr (by decide) rfl (pa_cons (pv 2) (pa_cons (pe_mt0 m_Function_top hr (by decide) (pv 1)) (pa_cons (pv 6) pa_nil)))) pa_nil)))))
      (pss_cons (ps_set (i := 8) sc_plus.nd rfl (by first | exact Or.inl rfl | exact Or.inr rfl) (pe_c c_added hr (by decide) rfl (pa_cons (pv 2) (pa_cons (pe_c c_multiplied hr (by decide) rfl (pa_cons (pv 2) (pa_cons (pv 5) (pa_cons (pe_mt0 m_Function_bottom hr (by decide) (pv 1)) pa_nil)))) (pa_cons (pe_c c_multiplied hr (by decide) rfl (pa_cons (pv 2) (pa_cons (pe_mt0 m_Function_side hr (by decide) (pv 1)) (pa_cons (pv 6) pa_nil)))) pa_nil)))))
      (pss_one (ps_ret (pe_c c_made hr (by decide) rfl (pa_cons (pe_mt0 m_Function_curve hr (by decide) (pv 0)) (pa_cons (pv 7) (pa_cons (pv 8) (pa_cons (pe_c c_multiplied hr (by decide) rfl (pa_cons (pv 2) (pa_cons (pv 6) (pa_cons (pe_mt0 m_Function_bottom hr (by decide) (pv 1)) pa_nil)))) pa_nil))))))))))), run_def (N := nm_plus) (fun ds d p => ?_) vs H Q E h⟩)
  · rintro ds d ⟨_, _, _, rfl, _⟩; rfl
  ·
    obtain ⟨c, T, U, rfl, ⟨cv, hT, hU⟩, rfl⟩ := p
    have hLM : LM = 1000000 := rfl
    have hp := cv.pos
    have hpl := cv.pm.le
    have a1 := hT.sz
    have a2 := hU.sz
    have l1 := pmul_len (p := c.1) (a := T.1) (b := U.2.2)
    have l2 := pmul_len (p := c.1) (a := U.1) (b := T.2.2)
    have l3 := pmul_len (p := c.1) (a := T.2.1) (b := U.2.2)
    have l4 := pmul_len (p := c.1) (a := U.2.1) (b := T.2.2)
    have l5 := pmul_len (p := c.1) (a := T.2.2) (b := U.2.2)
    have q1 := padd_len (p := c.1) (a := pmul c.1 T.1 U.2.2) (b := pmul c.1 U.1 T.2.2)
    have q2 := padd_len (p := c.1) (a := pmul c.1 T.2.1 U.2.2) (b := pmul c.1 U.2.1 T.2.2)
    show StD K _ [.val (fnD K c T), .val (fnD K c U), .un, .un, .un, .un, .un, .un, .un] _
    refine st_seq (st_unp5 (ev_call (ea1 (ev_var rfl)) ⟨c, T, rfl, trivial, rfl⟩)) ?_
    show StD K _ [.val (fnD K c T), .val (fnD K c U), .val (.int c.1), .val (inD c.2), .val (inD T.1), .val (inD T.2.1), .val (inD T.2.2), .un, .un] _
    refine st_seq (st_set (ev_call (ea3 (ev_var rfl) (ev_call (ea3 (ev_var rfl) (ev_var rfl) (ev_meth (C := He.ga K "Function") (by decide +kernel) (ev_var rfl) ea_nil ⟨c, U, rfl, trivial, rfl⟩)) ⟨c.1, T.1, U.2.2, rfl, hp, by omega, by omega, hT.ls.n1.sm hpl, rfl⟩) (ev_call (ea3 (ev_var rfl) (ev_meth (C := He.ga K "Function") (by decide +kernel) (ev_var rfl) ea_nil ⟨c, U, rfl, trivial, rfl⟩) (ev_var rfl)) ⟨c.1, U.1, T.2.2, rfl, hp, by omega, by omega, hU.ls.n1.sm hpl, rfl⟩)) ⟨c.1, _, _, rfl, hp, by omega, by omega, rfl⟩)) ?_
    refine st_seq (st_set (ev_call (ea3 (ev_var rfl) (ev_call (ea3 (ev_var rfl) (ev_var rfl) (ev_meth (C := He.ga K "Function") (by decide +kernel) (ev_var rfl) ea_nil ⟨c, U, rfl, trivial, rfl⟩)) ⟨c.1, T.2.1, U.2.2, rfl, hp, by omega, by omega, hT.ls.n2.sm hpl, rfl⟩) (ev_call (ea3 (ev_var rfl) (ev_meth (C := He.ga K "Function") (by decide +kernel) (ev_var rfl) ea_nil ⟨c, U, rfl, trivial, rfl⟩) (ev_var rfl)) ⟨c.1, U.2.1, T.2.2, rfl, hp, by omega, by omega, hU.ls.n2.sm hpl, rfl⟩)) ⟨c.1, _, _, rfl, hp, by omega, by omega, rfl⟩)) ?_
    exact st_ret (ev_call (ea4 (ev_meth (C := He.ga K "Function") (by decide +kernel) (ev_var rfl) ea_nil ⟨c, T, rfl, trivial, rfl⟩) (ev_var rfl) (ev_var rfl) (ev_call (ea3 (ev_var rfl) (ev_var rfl) (ev_meth (C := He.ga K "Function") (by decide +kernel) (ev_var rfl) ea_nil ⟨c, U, rfl, trivial, rfl⟩)) ⟨c.1, T.2.2, U.2.2, rfl, hp, by omega, by omega, hT.ls.n3.sm hpl, rfl⟩)) ⟨c, _, _, _, rfl, ⟨cv, trim_nrm hp _, trim_nrm hp _, trim_nrm hp _, pmul_ne cv.pm hT.ls.n3 hU.ls.n3 hT.ls.ne hU.ls.ne, by omega, by omega, by omega⟩, rfl⟩)
abbrev s_opposite : Stmt := top 43
abbrev nm_opposite : List Str := ["function", "p", "_", "top", "side", "bottom"]
theorem sc_opposite : FnScope nm_opposite ["function"] (defScope s_opposite) := ⟨rfl, rfl, rfl, by decide +kernel, rfl, by decide +kernel, by decide +kernel⟩
theorem ok_opposite (fx : Fx K mg) (c_parts_of : Cal P w K mg base 2 "parts_of" (spD K (p_parts_of K)) []) (c_made : Cal P w K mg base 9 "made" (spD K (p_made K)) []) (c_negated : Cal P w K mg base 2 "negated" (spD K p_negated) []) (m_Function_curve : Met P w K mg base 1 (He.ga K "Function") "curve" (spD K (p_Function_curve K)) []) (F : FunD K "opposite" "opposite" (defArgs s_opposite) (defBody s_opposite) (defScope s_opposite) [] [] f fd) : FnOk P w K mg base CX0 10 f fd ["function"] (spD K (p_opposite K)) := by
  refine F.ok sc_opposite (spD_len (n := 1) ?_) (fun cdv A outer s H vs Q E hr h => ⟨_, PSs.nox ((pss_cons (ps_asg (pe_c c_parts_of hr (by decide) rfl (pa_cons (pv 0) pa_nil)) (pgt (n := 5) K rfl (pgs_cons (pg_name (i := 1) sc_opposite.nd rfl (by first | exact Or.inl rfl | exact Or.inr rfl)) (pgs_cons (pg_name (i := 2) sc_opposite.nd rfl (by first | exact Or.inl rfl | exact Or.inr rfl)) (pgs_cons (pg_name (i := 3) sc_opposite.nd rfl (by first | exact Or.inl rfl | exact Or.inr rfl)) (pgs_cons (pg_name (i := 4) sc_opposite.nd rfl (by first | exact Or.inl rfl | exact Or.inr rfl)) (pgs_cons (pg_name (i := 5) sc_opposite.nd rfl (by first | exact Or.inl rfl | exact Or.inr rfl)) pgs_nil)))))))
      (pss_one (ps_ret (pe_c c_made hr (by decide) rfl (pa_cons (pe_mt0 m_Function_curve hr (by decide) (pv 0)) (pa_cons (pe_c c_negated hr (by decide) rfl (pa_cons (pv 1) (pa_cons (pv 3) pa_nil))) (pa_cons (pe_c c_negated hr (by decide) rfl (pa_cons (pv 1) (pa_cons (pv 4) pa_nil))) (pa_cons (pv 5) pa_nil))))))))), run_def (N := nm_opposite) (fun ds d p => ?_) vs H Q E h⟩)
  · rintro ds d ⟨_, _, rfl, _⟩; rfl
  ·
    obtain ⟨c, T, rfl, ⟨cv, hT⟩, rfl⟩ := p
    have hLM : LM = 1000000 := rfl
    have hp := cv.pos
    have a1 := hT.sz
    have l1 := pneg_len (p := c.1) (a := T.1)
    have l2 := pneg_len (p := c.1) (a := T.2.1)
    show StD K _ [.val (fnD K c T), .un, .un, .un, .un, .un] _
    refine st_seq (st_unp5 (ev_call (ea1 (ev_var rfl)) ⟨c, T, rfl, trivial, rfl⟩)) ?_
    show StD K _ [.val (fnD K c T), .val (.int c.1), .val (inD c.2), .val (inD T.1), .val (inD T.2.1), .val (inD T.2.2)] _
    exact st_ret (ev_call (ea4 (ev_meth (C := He.ga K "Function") (by decide +kernel) (ev_var rfl) ea_nil ⟨c, T, rfl, trivial, rfl⟩) (ev_call (ea2 (ev_var rfl) (ev_var rfl)) ⟨c.1, T.1, rfl, hp, by omega, rfl⟩) (ev_call (ea2 (ev_var rfl) (ev_var rfl)) ⟨c.1, T.2.1, rfl, hp, by omega, rfl⟩) (ev_var rfl)) ⟨c, _, _, _, rfl, ⟨cv, trim_nrm hp _, trim_nrm hp _, hT.ls.n3, hT.ls.ne, by omega, by omega, by omega⟩, rfl⟩)
abbrev s_minus : Stmt := top 44
abbrev nm_minus : List Str := ["one", "other"]
theorem sc_minus : FnScope nm_minus ["one", "other"] (defScope s_minus) := ⟨rfl, rfl, rfl, by decide +kernel, rfl, by decide +kernel, by decide +kernel⟩
theorem ok_minus (fx : Fx K mg) (c_plus : Cal P w K mg base 10 "plus" (spD K (p_plus K)) []) (c_opposite : Cal P w K mg base 10 "opposite" (spD K (p_opposite K)) []) (F : FunD K "minus" "minus" (defArgs s_minus) (defBody s_minus) (defScope s_minus) [] [] f fd) : FnOk P w K mg base CX0 11 f fd ["one", "other"] (spD K (p_minus K)) := by
  refine F.ok sc_minus (spD_len (n := 2) ?_) (fun cdv A outer s H vs Q E hr h => ⟨_, PSs.nox ((pss_one (ps_ret (pe_c c_plus hr (by decide) rfl (pa_cons (pv 0) (pa_cons (pe_c c_opposite hr (by decide) rfl (pa_cons (pv 1) pa_nil)) pa_nil)))))), run_def (N := nm_minus) (fun ds d p => ?_) vs H Q E h⟩)
  · rintro ds d ⟨_, _, _, rfl, _⟩; rfl
  ·
    obtain ⟨c, T, U, rfl, ⟨cv, hT, hU⟩, rfl⟩ := p
    show StD K _ [.val (fnD K c T), .val (fnD K c U)] _
    exact st_ret (ev_call (ea2 (ev_var rfl) (ev_call (ea1 (ev_var rfl)) ⟨c, U, rfl, ⟨cv, hU.mono (by omega)⟩, rfl⟩)) ⟨c, T, _, rfl, ⟨cv, hT.mono (by omega), (fOpp_in cv hU).mono (by omega)⟩, rfl⟩)
abbrev s_times : Stmt := top 45
abbrev nm_times : List Str := ["one", "other", "p", "f", "top", "side", "bottom", "high", "tops", "sides"]
theorem sc_times : FnScope nm_times ["one", "other"] (defScope s_times) := ⟨rfl, rfl, rfl, by decide +kernel, rfl, by decide +kernel, by decide +kernel⟩
theorem ok_times (fx : Fx K mg) (c_parts_of : Cal P w K mg base 2 "parts_of" (spD K (p_parts_of K)) []) (c_multiplied : Cal P w K mg base 2 "multiplied" (spD K p_multiplied) []) (c_added : Cal P w K mg base 2 "added" (spD K p_added) []) (c_made : Cal P w K mg base 9 "made" (spD K (p_made K)) []) (m_Function_curve : Met P w K mg base 1 (He.ga K "Function") "curve" (spD K (p_Function_curve K)) []) (m_Function_side : Met P w K mg base 1 (He.ga K "Function") "side" (spD K (p_Function_side K)) []) (m_Function_top : Met P w K mg base 1 (He.ga K "Function") "top" (spD K (p_Function_top K)) []) (m_Function_bottom : Met P w K mg base 1 (He.ga K "Function") "bottom" (spD K (p_Function_bottom K)) []) (F : FunD K "times" "times" (defArgs s_times) (defBody s_times) (defScope s_times) [] [] f fd) : FnOk P w K mg base CX0 10 f fd ["one", "other"] (spD K (p_times K)) := by
  refine F.ok sc_times (spD_len (n := 2) ?_) (fun cdv A outer s H vs Q E hr h => ⟨_, PSs.nox ((pss_cons (ps_asg (pe_c c_parts_of hr (by decide) rfl (pa_cons (pv 0) pa_nil)) (pgt (n := 5) K rfl (pgs_cons (pg_name (i := 2) sc_times.nd rfl (by first | exact Or.inl rfl | exact Or.inr rfl)) (pgs_cons (pg_name (i := 3) sc_times.nd rfl (by first | exact Or.inl rfl | exact Or.inr rfl)) (pgs_cons (pg_name (i := 4) sc_times.nd rfl (by first | exact Or.inl rfl | exact Or.inr rfl)) (pgs_cons (pg_name (i := 5) sc_times.nd rfl (by first | exact Or.inl rfl | exact Or.inr rfl)) (pgs_cons (pg_name (i := 6) sc_times.nd rfl (by first | exact Or.inl rfl | exact Or.inr rfl)) pgs_nil)))))))
      (pss_cons (ps_set (i := 7) sc_times.nd rfl (by first | exact Or.inl rfl | exact Or.inr rfl) (pe_c c_multiplied hr (by decide) rfl (pa_cons (pv 2) (pa_cons (pe_c c_multiplied hr (by decide) rfl (pa_cons (pv 2) (pa_cons (pv 5) (pa_cons (pe_mt0 m_Function_side hr (by decide) (pv 1)) pa_nil)))) (pa_cons (pv 3) pa_nil)))))
      (pss_cons (ps_set (i := 8) sc_times.nd rfl (by first | exact Or.inl rfl | exact Or.inr rfl) (pe_c c_added hr (by decide) rfl (pa_cons (pv 2) (pa_cons (pe_c c_multiplied hr (by decide) rfl (pa_cons (pv 2) (pa_cons (pv 4) (pa_cons (pe_mt0 m_Function_top hr (by decide) (pv 1)) pa_nil)))) (pa_cons (pv 7) pa_nil)))))
      (pss_cons (ps_set (i := 9) sc_times.nd rfl (by first | exact Or.inl rfl | exact Or.inr rfl) (pe_c c_added hr (by decide) rfl (pa_cons (pv 2) (pa_cons (pe_c c_multiplied hr (by decide) rfl (pa_cons (pv 2) (pa_cons (pv 4) (pa_cons (pe_mt0 m_Function_side hr (by decide) (pv 1)) pa_nil)))) (pa_cons (pe_c c_multiplied hr (by decide) rfl (pa_cons (pv 2) (pa_cons (pv 5) (pa_cons (pe_mt0 m_Function_top hr (by decide) (pv 1)) pa_nil)))) pa_nil)))))
      (pss_one (ps_ret (pe_c c_made hr (by decide) rfl (pa_cons (pe_mt0 m_Function_curve hr (by decide) (pv 0)) (pa_cons (pv 8) (pa_cons (pv 9) (pa_cons (pe_c c_multiplied hr (by decide) rfl (pa_cons (pv 2) (pa_cons (pv 6) (pa_cons (pe_mt0 m_Function_bottom hr (by decide) (pv 1)) pa_nil)))) pa_nil)))))))))))), run_def (N := nm_times) (fun ds d p => ?_) vs H Q E h⟩)
  · rintro ds d ⟨_, _, _, rfl, _⟩; rfl
  ·
    obtain ⟨c, T, U, rfl, ⟨cv, hT, hU⟩, rfl⟩ := p
    have hLM : LM = 1000000 := rfl
    have hp := cv.pos
    have hpl := cv.pm.le
    have a1 := hT.sz
    have a2 := hU.sz
    have a3 := cv.len
    have l1 := pmul_len (p := c.1) (a := T.1) (b := U.1)
    have l2 := pmul_len (p := c.1) (a := T.2.1) (b := U.2.1)
    have l3 := pmul_len (p := c.1) (a := pmul c.1 T.2.1 U.2.1) (b := c.2)
    have l4 := pmul_len (p := c.1) (a := T.1) (b := U.2.1)
    have l6 := pmul_len (p := c.1) (a := T.2.1) (b := U.1)
    have l5 := pmul_len (p := c.1) (a := T.2.2) (b := U.2.2)
    have q1 := padd_len (p := c.1) (a := pmul c.1 T.1 U.1) (b := pmul c.1 (pmul c.1 T.2.1 U.2.1) c.2)
    have q2 := padd_len (p := c.1) (a := pmul c.1 T.1 U.2.1) (b := pmul c.1 T.2.1 U.1)
    show StD K _ [.val (fnD K c T), .val (fnD K c U), .un, .un, .un, .un, .un, .un, .un, .un] _
    refine st_seq (st_unp5 (ev_call (ea1 (ev_var rfl)) ⟨c, T, rfl, trivial, rfl⟩)) ?_
    show StD K _ [.val (fnD K c T), .val (fnD K c U), .val (.int c.1), .val (inD c.2), .val (inD T.1), .val (inD T.2.1), .val (inD T.2.2), .un, .un, .un] _
    refine st_seq (st_set (ev_call (ea3 (ev_var rfl) (ev_call (ea3 (ev_var rfl) (ev_var rfl) (ev_meth (C := He.ga K "Function") (by decide +kernel) (ev_var rfl) ea_nil ⟨c, U, rfl, trivial, rfl⟩)) ⟨c.1, T.2.1, U.2.1, rfl, hp, by omega, by omega, hT.ls.n2.sm hpl, rfl⟩) (ev_var rfl)) ⟨c.1, _, c.2, rfl, hp, by omega, by omega, (trim_nrm hp _).sm hpl, rfl⟩)) ?_
    refine st_seq (st_set (ev_call (ea3 (ev_var rfl) (ev_call (ea3 (ev_var rfl) (ev_var rfl) (ev_meth (C := He.ga K "Function") (by decide +kernel) (ev_var rfl) ea_nil ⟨c, U, rfl, trivial, rfl⟩)) ⟨c.1, T.1, U.1, rfl, hp, by omega, by omega, hT.ls.n1.sm hpl, rfl⟩) (ev_var rfl)) ⟨c.1, _, _, rfl, hp, by omega, by omega, rfl⟩)) ?_
    refine st_seq (st_set (ev_call (ea3 (ev_var rfl) (ev_call (ea3 (ev_var rfl) (ev_var rfl) (ev_meth (C := He.ga K "Function") (by decide +kernel) (ev_var rfl) ea_nil ⟨c, U, rfl, trivial, rfl⟩)) ⟨c.1, T.1, U.2.1, rfl, hp, by omega, by omega, hT.ls.n1.sm hpl, rfl⟩) (ev_call (ea3 (ev_var rfl) (ev_var rfl) (ev_meth (C := He.ga K "Function") (by decide +kernel) (ev_var rfl) ea_nil ⟨c, U, rfl, trivial, rfl⟩)) ⟨c.1, T.2.1, U.1, rfl, hp, by omega, by omega, hT.ls.n2.sm hpl, rfl⟩)) ⟨c.1, _, _, rfl, hp, by omega, by omega, rfl⟩)) ?_
    exact st_ret (ev_call (ea4 (ev_meth (C := He.ga K "Function") (by decide +kernel) (ev_var rfl) ea_nil ⟨c, T, rfl, trivial, rfl⟩) (ev_var rfl) (ev_var rfl) (ev_call (ea3 (ev_var rfl) (ev_var rfl) (ev_meth (C := He.ga K "Function") (by decide +kernel) (ev_var rfl) ea_nil ⟨c, U, rfl, trivial, rfl⟩)) ⟨c.1, T.2.2, U.2.2, rfl, hp, by omega, by omega, hT.ls.n3.sm hpl, rfl⟩)) ⟨c, _, _, _, rfl, ⟨cv, trim_nrm hp _, trim_nrm hp _, trim_nrm hp _, pmul_ne cv.pm hT.ls.n3 hU.ls.n3 hT.ls.ne hU.ls.ne, by omega, by omega, by omega⟩, rfl⟩)
abbrev s_norm_top : Stmt := top 46
abbrev nm_norm_top : List Str := ["function", "p", "f", "top", "side", "_"]
theorem sc_norm_top : FnScope nm_norm_top ["function"] (defScope s_norm_top) := ⟨rfl, rfl, rfl, by decide +kernel, rfl, by decide +kernel, by decide +kernel⟩
theorem ok_norm_top (fx : Fx K mg) (c_parts_of : Cal P w K mg base 2 "parts_of" (spD K (p_parts_of K)) []) (c_lessened : Cal P w K mg base 3 "lessened" (spD K p_lessened) []) (c_multiplied : Cal P w K mg base 2 "multiplied" (spD K p_multiplied) []) (F : FunD K "norm_top" "norm_top" (defArgs s_norm_top) (defBody s_norm_top) (defScope s_norm_top) [] [] f fd) : FnOk P w K mg base CX0 4 f fd ["function"] (spD K (p_norm_top K)) := by
  refine F.ok sc_norm_top (spD_len (n := 1) ?_) (fun cdv A outer s H vs Q E hr h => ⟨_, PSs.nox ((pss_cons (ps_asg (pe_c c_parts_of hr (by decide) rfl (pa_cons (pv 0) pa_nil)) (pgt (n := 5) K rfl (pgs_cons (pg_name (i := 1) sc_norm_top.nd rfl (by first | exact Or.inl rfl | exact Or.inr rfl)) (pgs_cons (pg_name (i := 2) sc_norm_top.nd rfl (by first | exact Or.inl rfl | exact Or.inr rfl)) (pgs_cons (pg_name (i := 3) sc_norm_top.nd rfl (by first | exact Or.inl rfl | exact Or.inr rfl)) (pgs_cons (pg_name (i := 4) sc_norm_top.nd rfl (by first | exact Or.inl rfl | exact Or.inr rfl)) (pgs_cons (pg_name (i := 5) sc_norm_top.nd rfl (by first | exact Or.inl rfl | exact Or.inr rfl)) pgs_nil)))))))
      (pss_one (ps_ret (pe_c c_lessened hr (by decide) rfl (pa_cons (pv 1) (pa_cons (pe_c c_multiplied hr (by decide) rfl (pa_cons (pv 1) (pa_cons (pv 3) (pa_cons (pv 3) pa_nil)))) (pa_cons (pe_c c_multiplied hr (by decide) rfl (pa_cons (pv 1) (pa_cons (pe_c c_multiplied hr (by decide) rfl (pa_cons (pv 1) (pa_cons (pv 4) (pa_cons (pv 4) pa_nil)))) (pa_cons (pv 2) pa_nil)))) pa_nil)))))))), run_def (N := nm_norm_top) (fun ds d p => ?_) vs H Q E h⟩)
  · rintro ds d ⟨_, _, rfl, _⟩; rfl
  ·
    obtain ⟨c, T, rfl, ⟨cv, hT⟩, rfl⟩ := p
    have hLM : LM = 1000000 := rfl
    have hp := cv.pos
    have hpl := cv.pm.le
    have a1 := hT.sz
    have a3 := cv.len
    have l1 := pmul_len (p := c.1) (a := T.1) (b := T.1)
    have l2 := pmul_len (p := c.1) (a := T.2.1) (b := T.2.1)
    have l3 := pmul_len (p := c.1) (a := pmul c.1 T.2.1 T.2.1) (b := c.2)
    show StD K _ [.val (fnD K c T), .un, .un, .un, .un, .un] _
    refine st_seq (st_unp5 (ev_call (ea1 (ev_var rfl)) ⟨c, T, rfl, trivial, rfl⟩)) ?_
    exact st_ret (ev_call (ea3 (ev_var rfl) (ev_call (ea3 (ev_var rfl) (ev_var rfl) (ev_var rfl)) ⟨c.1, T.1, T.1, rfl, hp, by omega, by omega, hT.ls.n1.sm hpl, rfl⟩) (ev_call (ea3 (ev_var rfl) (ev_call (ea3 (ev_var rfl) (ev_var rfl) (ev_var rfl)) ⟨c.1, T.2.1, T.2.1, rfl, hp, by omega, by omega, hT.ls.n2.sm hpl, rfl⟩) (ev_var rfl)) ⟨c.1, _, c.2, rfl, hp, by omega, by omega, (trim_nrm hp _).sm hpl, rfl⟩)) ⟨c.1, _, _, rfl, hp, by omega, by omega, rfl⟩)
abbrev s_back_of : Stmt := top 47
abbrev nm_back_of : List Str := ["function", "p", "_", "top", "side", "bottom", "tops", "sides"]
theorem sc_back_of : FnScope nm_back_of ["function"] (defScope s_back_of) := ⟨rfl, rfl, rfl, by decide +kernel, rfl, by decide +kernel, by decide +kernel⟩
theorem ok_back_of (fx : Fx K mg) (c_parts_of : Cal P w K mg base 2 "parts_of" (spD K (p_parts_of K)) []) (c_made : Cal P w K mg base 9 "made" (spD K (p_made K)) []) (c_multiplied : Cal P w K mg base 2 "multiplied" (spD K p_multiplied) []) (c_negated : Cal P w K mg base 2 "negated" (spD K p_negated) []) (c_norm_top : Cal P w K mg base 4 "norm_top" (spD K (p_norm_top K)) []) (m_Function_curve : Met P w K mg base 1 (He.ga K "Function") "curve" (spD K (p_Function_curve K)) []) (F : FunD K "back_of" "back_of" (defArgs s_back_of) (defBody s_back_of) (defScope s_back_of) [] [] f fd) : FnOk P w K mg base CX0 10 f fd ["function"] (spD K (p_back_of K)) := by
  refine F.ok sc_back_of (spD_len (n := 1) ?_) (fun cdv A outer s H vs Q E hr h => ⟨_, PSs.nox ((pss_cons (ps_asg (pe_c c_parts_of hr (by decide) rfl (pa_cons (pv 0) pa_nil)) (pgt (n := 5) K rfl (pgs_cons (pg_name (i := 1) sc_back_of.nd rfl (by first | exact Or.inl rfl | exact Or.inr rfl)) (pgs_cons (pg_name (i := 2) sc_back_of.nd rfl (by first | exact Or.inl rfl | exact Or.inr rfl)) (pgs_cons (pg_name (i := 3) sc_back_of.nd rfl (by first | exact Or.inl rfl | exact Or.inr rfl)) (pgs_cons (pg_name (i := 4) sc_back_of.nd rfl (by first | exact Or.inl rfl | exact Or.inr rfl)) (pgs_cons (pg_name (i := 5) sc_back_of.nd rfl (by first | exact Or.inl rfl | exact Or.inr rfl)) pgs_nil)))))))
      (pss_cons (ps_par (i := 6) (j := 7) (by rfl) sc_back_of.nd rfl rfl (by decide) rfl rfl (pa_cons (pe_c c_multiplied hr (by decide) rfl (pa_cons (pv 1) (pa_cons (pv 3) (pa_cons (pv 5) pa_nil)))) (pa_cons (pe_c c_negated hr (by decide) rfl (pa_cons (pv 1) (pa_cons (pe_c c_multiplied hr (by decide) rfl (pa_cons (pv 1) (pa_cons (pv 4) (pa_cons (pv 5) pa_nil)))) pa_nil))) pa_nil)) (by rfl))
      (pss_one (ps_ret (pe_c c_made hr (by decide) rfl (pa_cons (pe_mt0 m_Function_curve hr (by decide) (pv 0)) (pa_cons (pv 6) (pa_cons (pv 7) (pa_cons (pe_c c_norm_top hr (by decide) rfl (pa_cons (pv 0) pa_nil)) pa_nil)))))))))), run_def (N := nm_back_of) (fun ds d p => ?_) vs H Q E h⟩)
  · rintro ds d ⟨_, _, rfl, _⟩; rfl
  ·
    obtain ⟨c, T, rfl, ⟨cv, hT, hN⟩, rfl⟩ := p
    have hLM : LM = 1000000 := rfl
    have hp := cv.pos
    have hpl := cv.pm.le
    have a1 := hT.sz
    have a3 := cv.len
    have l1 := pmul_len (p := c.1) (a := T.1) (b := T.2.2)
    have l2 := pmul_len (p := c.1) (a := T.2.1) (b := T.2.2)
    have l3 := pneg_len (p := c.1) (a := pmul c.1 T.2.1 T.2.2)
    have l4 := pmul_len (p := c.1) (a := T.1) (b := T.1)
    have l5 := pmul_len (p := c.1) (a := T.2.1) (b := T.2.1)
    have l6 := pmul_len (p := c.1) (a := pmul c.1 T.2.1 T.2.1) (b := c.2)
    have l7 := psub_len (p := c.1) (a := pmul c.1 T.1 T.1) (b := pmul c.1 (pmul c.1 T.2.1 T.2.1) c.2)
    have l8 : (fNorm c T).length ≤ 40010 := by unfold fNorm; omega
    show StD K _ [.val (fnD K c T), .un, .un, .un, .un, .un, .un, .un] _
    refine st_seq (st_unp5 (ev_call (ea1 (ev_var rfl)) ⟨c, T, rfl, trivial, rfl⟩)) ?_
    refine st_seq (st_par (c1 := .val (inD (pmul c.1 T.1 T.2.2))) (c2 := .val (inD (pneg c.1 (pmul c.1 T.2.1 T.2.2)))) (em_v (ev_call (ea3 (ev_var rfl) (ev_var rfl) (ev_var rfl)) ⟨c.1, T.1, T.2.2, rfl, hp, by omega, by omega, hT.ls.n1.sm hpl, rfl⟩)) (em_v (ev_call (ea2 (ev_var rfl) (ev_call (ea3 (ev_var rfl) (ev_var rfl) (ev_var rfl)) ⟨c.1, T.2.1, T.2.2, rfl, hp, by omega, by omega, hT.ls.n2.sm hpl, rfl⟩)) ⟨c.1, _, rfl, hp, by omega, rfl⟩)) (fun z => nomatch z) (fun z => nomatch z) (by decide)) ?_
    exact st_ret (ev_call (ea4 (ev_meth (C := He.ga K "Function") (by decide +kernel) (ev_var rfl) ea_nil ⟨c, T, rfl, trivial, rfl⟩) (ev_var rfl) (ev_var rfl) (ev_call (ea1 (ev_var rfl)) ⟨c, T, rfl, ⟨cv, hT.mono (by omega)⟩, rfl⟩)) ⟨c, _, _, _, rfl, ⟨cv, trim_nrm hp _, trim_nrm hp _, trim_nrm hp _, hN, by omega, by omega, by omega⟩, rfl⟩)
abbrev s_raised_to : Stmt := top 48
abbrev nm_raised_to : List Str := ["function", "count", "found", "base", "left"]
theorem sc_raised_to : FnScope nm_raised_to ["function", "count"] (defScope s_raised_to) := ⟨rfl, rfl, rfl, by decide +kernel, rfl, by decide +kernel, by decide +kernel⟩
theorem ok_raised_to (fx : Fx K mg) (c_made : Cal P w K mg base 9 "made" (spD K (p_made K)) []) (c_times : Cal P w K mg base 10 "times" (spD K (p_times K)) []) (m_Function_curve : Met P w K mg base 1 (He.ga K "Function") "curve" (spD K (p_Function_curve K)) []) (F : FunD K "raised_to" "raised_to" (defArgs s_raised_to) (defBody s_raised_to) (defScope s_raised_to) [] [] f fd) : FnOk P w K mg base CX0 11 f fd ["function", "count"] (spD K (p_raised_to K)) := by
  refine F.ok sc_raised_to (spD_len (n := 2) ?_) (fun cdv A outer s H vs Q E hr h => ⟨_, PSs.nox ((pss_cons (ps_par3 (i := 2) (j := 3) (l := 4) (by rfl) sc_raised_to.nd rfl rfl rfl (by decide) (by decide) (by decide) rfl rfl rfl (pa_cons (pe_c c_made hr (by decide) rfl (pa_cons (pe_mt0 m_Function_curve hr (by decide) (pv 0)) (pa_cons (pe_lst (pa_cons pe_int pa_nil)) (pa_cons (pe_lst pa_nil) (pa_cons (pe_lst (pa_cons pe_int pa_nil)) pa_nil))))) (pa_cons (pv 0) (pa_cons (pv 1) pa_nil))) (by rfl))
      (pss_cons (ps_while PassesOwn.never (pt_cmpR op_gt (pv 4) pe_int (nomark _))
      (pss_cons (ps_if (pt_cmpR op_eq (pe_op op_mod (pv 4) pe_int) pe_int (nomark _)) (pss_one (ps_set (i := 2) sc_raised_to.nd rfl (by first | exact Or.inl rfl | exact Or.inr rfl) (pe_c c_times hr (by decide) rfl (pa_cons (pv 2) (pa_cons (pv 3) pa_nil))))) pss_nil)
      (pss_one (ps_par (i := 3) (j := 4) (by rfl) sc_raised_to.nd rfl rfl (by decide) rfl rfl (pa_cons (pe_c c_times hr (by decide) rfl (pa_cons (pv 3) (pa_cons (pv 3) pa_nil))) (pa_cons (pe_op op_fdiv (pv 4) pe_int) pa_nil)) (by rfl)))))
      (pss_one (ps_ret (pv 2)))))), run_def (N := nm_raised_to) (fun ds d p => ?_) vs H Q E h⟩)
  · rintro ds d ⟨_, _, _, rfl, _⟩; rfl
  ·
    obtain ⟨c, T, n, rfl, ⟨cv, hT, h0, h1⟩, rfl⟩ := p
    show StD K _ [.val (fnD K c T), .val (.int n), .un, .un, .un] _
    refine st_seq (st_par3 (c1 := .val (fnD K c (fOne c))) (c2 := .val (fnD K c T)) (c3 := .val (.int n)) (em_v (ev_call (ea4 (ev_meth (C := He.ga K "Function") (by decide +kernel) (ev_var rfl) ea_nil ⟨c, T, rfl, trivial, rfl⟩) (ev_pub (en_lst1 ev_int)) (ev_pub en_lst0) (ev_pub (en_lst1 ev_int))) ⟨c, [1], [], [1], rfl, ⟨cv, one_nrm cv.pm, nrm_nil, one_nrm cv.pm, by simp, by simp, by simp, by simp⟩, rfl⟩)) (em_v (ev_var rfl)) (em_v (ev_var rfl)) (fun z => nomatch z) (fun z => nomatch z) (fun z => nomatch z) (by decide) (by decide) (by decide)) ?_
    refine st_seq (st_while (S := Tri × Tri × Int) (Gs := fun s => [.val (fnD K c T), .val (.int n), .val (fnD K c s.1), .val (fnD K c s.2.1), .val (.int s.2.2)]) (Iv := fun s => 0 ≤ s.2.2 ∧ s.2.2 ≤ 20 ∧ ∃ a b : Nat, FnIn c s.1 a ∧ FnIn c s.2.1 b ∧ (a + 9) + s.2.2.toNat * (b + 9) ≤ 9000) (μ := fun s => s.2.2.toNat) (f := rpS c) (cd := rpC) n.toNat (s0 := (fOne c, T, n)) (Nat.le_refl _) ⟨h0, h1, 2, 400, fOne_in cv, hT, ?_⟩ ?_ ?_) ?_
    · show (2 + 9) + n.toNat * (400 + 9) ≤ 9000
      omega
    · intro s _
      exact eb_test (ev_gt (ev_var rfl) ev_int)
    · rintro ⟨A, B, m⟩ ⟨i0, i1, a, b, hA, hB, hab⟩ hc
      simp only at i0 i1 hA hB hab
      have hm : 0 < m := by simpa [rpC] using hc
      have hb1 : b + 9 ≤ m.toNat * (b + 9) := Nat.le_mul_of_pos_left _ (by omega)
      have ht := fTimes_in cv hA hB
      have ht2 := fTimes_in cv hB hB
      refine ⟨StD.lp (st_seq (G1 := [.val (fnD K c T), .val (.int n), .val (fnD K c (if m % 2 = 1 then fTimes c A B else A)), .val (fnD K c B), .val (.int m)]) (st_if (x := decide (m % 2 = 1)) (eb_test (ev_eqI (ev_mod (by decide) (ev_var rfl) ev_int) ev_int)) (fun z => ?_) fun z => ?_) (st_par (c1 := .val (fnD K c (fTimes c B B))) (c2 := .val (.int (m / 2))) (em_v (ev_call (ea2 (ev_var rfl) (ev_var rfl)) ⟨c, B, B, rfl, ⟨cv, hB.mono (by omega), hB.mono (by omega)⟩, rfl⟩)) (em_v (ev_fdiv (by unfold CDiv; omega) (ev_var rfl) ev_int)) (fun z => nomatch z) (fun z => nomatch z) (by decide))), ⟨by show 0 ≤ m / 2; omega, by show m / 2 ≤ 20; omega, ?_⟩, by show (m / 2).toNat < m.toNat; omega⟩
      · have z' : m % 2 = 1 := by simpa using z
        rw [if_pos z']
        exact st_set (ev_call (ea2 (ev_var rfl) (ev_var rfl)) ⟨c, A, B, rfl, ⟨cv, hA.mono (by omega), hB.mono (by omega)⟩, rfl⟩)
      · have z' : ¬ m % 2 = 1 := by simpa using z
        rw [if_neg z']
        exact st_nil
      · by_cases z : m % 2 = 1
        · refine ⟨a + b + 9, b + b + 9, by show FnIn c (if m % 2 = 1 then fTimes c A B else A) _; rw [if_pos z]; exact ht, ht2, ?_⟩
          show (a + b + 9 + 9) + (m / 2).toNat * (b + b + 9 + 9) ≤ 9000
          have e : m.toNat = 2 * (m / 2).toNat + 1 := by omega
          rw [e, Nat.add_mul, Nat.mul_assoc] at hab
          rw [show b + b + 9 + 9 = 2 * (b + 9) by omega, Nat.mul_left_comm]
          omega
        · refine ⟨a, b + b + 9, by show FnIn c (if m % 2 = 1 then fTimes c A B else A) _; rw [if_neg z]; exact hA, ht2, ?_⟩
          show (a + 9) + (m / 2).toNat * (b + b + 9 + 9) ≤ 9000
          have e : m.toNat = 2 * (m / 2).toNat := by omega
          rw [e, Nat.mul_assoc] at hab
          rw [show b + b + 9 + 9 = 2 * (b + 9) by omega, Nat.mul_left_comm]
          omega
    · exact st_ret (ev_var rfl)
abbrev s_slope_by : Stmt := top 49
abbrev nm_slope_by : List Str := ["function", "p", "f", "top", "side", "bottom", "twice", "low", "tops", "sides", "below"]
theorem sc_slope_by : FnScope nm_slope_by ["function"] (defScope s_slope_by) := ⟨rfl, rfl, rfl, by decide +kernel, rfl, by decide +kernel, by decide +kernel⟩
theorem ok_slope_by (fx : Fx K mg) (c_parts_of : Cal P w K mg base 2 "parts_of" (spD K (p_parts_of K)) []) (c_lessened : Cal P w K mg base 3 "lessened" (spD K p_lessened) []) (c_added : Cal P w K mg base 2 "added" (spD K p_added) []) (c_multiplied : Cal P w K mg base 2 "multiplied" (spD K p_multiplied) []) (c_made : Cal P w K mg base 9 "made" (spD K (p_made K)) []) (c_scaled : Cal P w K mg base 2 "scaled" (spD K p_scaled) []) (c_slope_of : Cal P w K mg base 2 "slope_of" (spD K p_slope_of) []) (m_Function_curve : Met P w K mg base 1 (He.ga K "Function") "curve" (spD K (p_Function_curve K)) []) (F : FunD K "slope_by" "slope_by" (defArgs s_slope_by) (defBody s_slope_by) (defScope s_slope_by) [] [] f fd) : FnOk P w K mg base CX0 10 f fd ["function"] (spD K (p_slope_by K)) := by
  refine F.ok sc_slope_by (spD_len (n := 1) ?_) (fun cdv A outer s H vs Q E hr h => ⟨_, PSs.nox ((pss_cons (ps_asg (pe_c c_parts_of hr (by decide) rfl (pa_cons (pv 0) pa_nil)) (pgt (n := 5) K rfl (pgs_cons (pg_name (i := 1) sc_slope_by.nd rfl (by first | exact Or.inl rfl | exact Or.inr rfl)) (pgs_cons (pg_name (i := 2) sc_slope_by.nd rfl (by first | exact Or.inl rfl | exact Or.inr rfl)) (pgs_cons (pg_name (i := 3) sc_slope_by.nd rfl (by first | exact Or.inl rfl | exact Or.inr rfl)) (pgs_cons (pg_name (i := 4) sc_slope_by.nd rfl (by first | exact Or.inl rfl | exact Or.inr rfl)) (pgs_cons (pg_name (i := 5) sc_slope_by.nd rfl (by first | exact Or.inl rfl | exact Or.inr rfl)) pgs_nil)))))))
      (pss_cons (ps_par (i := 6) (j := 7) (by rfl) sc_slope_by.nd rfl rfl (by decide) rfl rfl (pa_cons (pe_c c_scaled hr (by decide) rfl (pa_cons (pv 1) (pa_cons (pv 2) (pa_cons pe_int pa_nil)))) (pa_cons (pe_c c_slope_of hr (by decide) rfl (pa_cons (pv 1) (pa_cons (pv 5) pa_nil))) pa_nil)) (by rfl))
      (pss_cons (ps_set (i := 8) sc_slope_by.nd rfl (by first | exact Or.inl rfl | exact Or.inr rfl) (pe_c c_lessened hr (by decide) rfl (pa_cons (pv 1) (pa_cons (pe_c c_multiplied hr (by decide) rfl (pa_cons (pv 1) (pa_cons (pe_c c_slope_of hr (by decide) rfl (pa_cons (pv 1) (pa_cons (pv 3) pa_nil))) (pa_cons (pv 5) pa_nil)))) (pa_cons (pe_c c_multiplied hr (by decide) rfl (pa_cons (pv 1) (pa_cons (pv 3) (pa_cons (pv 7) pa_nil)))) pa_nil)))))
      (pss_cons (ps_set (i := 9) sc_slope_by.nd rfl (by first | exact Or.inl rfl | exact Or.inr rfl) (pe_c c_lessened hr (by decide) rfl (pa_cons (pv 1) (pa_cons (pe_c c_multiplied hr (by decide) rfl (pa_cons (pv 1) (pa_cons (pe_c c_slope_of hr (by decide) rfl (pa_cons (pv 1) (pa_cons (pv 4) pa_nil))) (pa_cons (pv 5) pa_nil)))) (pa_cons (pe_c c_multiplied hr (by decide) rfl (pa_cons (pv 1) (pa_cons (pv 4) (pa_cons (pv 7) pa_nil)))) pa_nil)))))
      (pss_cons (ps_set (i := 9) sc_slope_by.nd rfl (by first | exact Or.inl rfl | exact Or.inr rfl) (pe_c c_added hr (by decide) rfl (pa_cons (pv 1) (pa_cons (pe_c c_multiplied hr (by decide) rfl (pa_cons (pv 1) (pa_cons (pv 9) (pa_cons (pv 6) pa_nil)))) (pa_cons (pe_c c_multiplied hr (by decide) rfl (pa_cons (pv 1) (pa_cons (pe_c c_multiplied hr (by decide) rfl (pa_cons (pv 1) (pa_cons (pv 4) (pa_cons (pe_c c_slope_of hr (by decide) rfl (pa_cons (pv 1) (pa_cons (pv 2) pa_nil))) pa_nil)))) (pa_cons (pv 5) pa_nil)))) pa_nil)))))
      (pss_cons (ps_set (i := 10) sc_slope_by.nd rfl (by first | exact Or.inl rfl | exact Or.inr rfl) (pe_c c_multiplied hr (by decide) rfl (pa_cons (pv 1) (pa_cons (pe_c c_multiplied hr (by decide) rfl (pa_cons (pv 1) (pa_cons (pv 5) (pa_cons (pv 5) pa_nil)))) (pa_cons (pv 6) pa_nil)))))
      (pss_one (ps_ret (pe_c c_made hr (by decide) rfl (pa_cons (pe_mt0 m_Function_curve hr (by decide) (pv 0)) (pa_cons (pe_c c_multiplied hr (by decide) rfl (pa_cons (pv 1) (pa_cons (pv 8) (pa_cons (pv 6) pa_nil)))) (pa_cons (pv 9) (pa_cons (pv 10) pa_nil)))))))))))))), run_def (N := nm_slope_by) (fun ds d p => ?_) vs H Q E h⟩)
  · rintro ds d ⟨_, _, rfl, _⟩; rfl
  ·
    obtain ⟨c, T, rfl, ⟨cv, hT⟩, rfl⟩ := p
    have hLM : LM = 1000000 := rfl
    have hp := cv.pos
    have hpl := cv.pm.le
    have a1 := hT.sz
    have a3 := cv.len
    have d1 := pder_len (p := c.1) (a := T.1)
    have d2 := pder_len (p := c.1) (a := T.2.1)
    have d3 := pder_len (p := c.1) (a := T.2.2)
    have d4 := pder_len (p := c.1) (a := c.2)
    have tw := pscl_len (p := c.1) (a := c.2) (n := 2)
    have l1 := pmul_len (p := c.1) (a := pder c.1 T.1) (b := T.2.2)
    have l2 := pmul_len (p := c.1) (a := T.1) (b := pder c.1 T.2.2)
    have l3 := pmul_len (p := c.1) (a := pder c.1 T.2.1) (b := T.2.2)
    have l4 := pmul_len (p := c.1) (a := T.2.1) (b := pder c.1 T.2.2)
    have s1 := psub_len (p := c.1) (a := pmul c.1 (pder c.1 T.1) T.2.2) (b := pmul c.1 T.1 (pder c.1 T.2.2))
    have s2 := psub_len (p := c.1) (a := pmul c.1 (pder c.1 T.2.1) T.2.2) (b := pmul c.1 T.2.1 (pder c.1 T.2.2))
    have l5 := pmul_len (p := c.1) (a := T.2.1) (b := pder c.1 c.2)
    have l6 := pmul_len (p := c.1) (a := pmul c.1 T.2.1 (pder c.1 c.2)) (b := T.2.2)
    have l7 := pmul_len (p := c.1) (a := T.2.2) (b := T.2.2)
    have l8 := pmul_len (p := c.1) (a := psub c.1 (pmul c.1 (pder c.1 T.2.1) T.2.2) (pmul c.1 T.2.1 (pder c.1 T.2.2))) (b := pscl c.1 c.2 2)
    have l9 := padd_len (p := c.1) (a := pmul c.1 (psub c.1 (pmul c.1 (pder c.1 T.2.1) T.2.2) (pmul c.1 T.2.1 (pder c.1 T.2.2))) (pscl c.1 c.2 2)) (b := pmul c.1 (pmul c.1 T.2.1 (pder c.1 c.2)) T.2.2)
    have l10 := pmul_len (p := c.1) (a := psub c.1 (pmul c.1 (pder c.1 T.1) T.2.2) (pmul c.1 T.1 (pder c.1 T.2.2))) (b := pscl c.1 c.2 2)
    have l11 := pmul_len (p := c.1) (a := pmul c.1 T.2.2 T.2.2) (b := pscl c.1 c.2 2)
    show StD K _ [.val (fnD K c T), .un, .un, .un, .un, .un, .un, .un, .un, .un, .un] _
    refine st_seq (st_unp5 (ev_call (ea1 (ev_var rfl)) ⟨c, T, rfl, trivial, rfl⟩)) ?_
    show StD K _ [.val (fnD K c T), .val (.int c.1), .val (inD c.2), .val (inD T.1), .val (inD T.2.1), .val (inD T.2.2), .un, .un, .un, .un, .un] _
    refine st_seq (st_par (c1 := .val (inD (pscl c.1 c.2 2))) (c2 := .val (inD (pder c.1 T.2.2))) (em_v (ev_call (ea3 (ev_var rfl) (ev_var rfl) ev_int) ⟨c.1, c.2, 2, rfl, hp, by omega, by decide, rfl⟩)) (em_v (ev_call (ea2 (ev_var rfl) (ev_var rfl)) ⟨c.1, T.2.2, rfl, hp, by omega, rfl⟩)) (fun z => nomatch z) (fun z => nomatch z) (by decide)) ?_
    show StD K _ [.val (fnD K c T), .val (.int c.1), .val (inD c.2), .val (inD T.1), .val (inD T.2.1), .val (inD T.2.2), .val (inD (pscl c.1 c.2 2)), .val (inD (pder c.1 T.2.2)), .un, .un, .un] _
    refine st_seq (st_set (ev_call (ea3 (ev_var rfl) (ev_call (ea3 (ev_var rfl) (ev_call (ea2 (ev_var rfl) (ev_var rfl)) ⟨c.1, T.1, rfl, hp, by omega, rfl⟩) (ev_var rfl)) ⟨c.1, _, T.2.2, rfl, hp, by omega, by omega, (trim_nrm hp _).sm hpl, rfl⟩) (ev_call (ea3 (ev_var rfl) (ev_var rfl) (ev_var rfl)) ⟨c.1, T.1, pder c.1 T.2.2, rfl, hp, by omega, by omega, hT.ls.n1.sm hpl, rfl⟩)) ⟨c.1, _, _, rfl, hp, by omega, by omega, rfl⟩)) ?_
    refine st_seq (st_set (ev_call (ea3 (ev_var rfl) (ev_call (ea3 (ev_var rfl) (ev_call (ea2 (ev_var rfl) (ev_var rfl)) ⟨c.1, T.2.1, rfl, hp, by omega, rfl⟩) (ev_var rfl)) ⟨c.1, _, T.2.2, rfl, hp, by omega, by omega, (trim_nrm hp _).sm hpl, rfl⟩) (ev_call (ea3 (ev_var rfl) (ev_var rfl) (ev_var rfl)) ⟨c.1, T.2.1, pder c.1 T.2.2, rfl, hp, by omega, by omega, hT.ls.n2.sm hpl, rfl⟩)) ⟨c.1, _, _, rfl, hp, by omega, by omega, rfl⟩)) ?_
    refine st_seq (st_set (ev_call (ea3 (ev_var rfl) (ev_call (ea3 (ev_var rfl) (ev_var rfl) (ev_var rfl)) ⟨c.1, _, _, rfl, hp, by omega, by omega, (trim_nrm hp _).sm hpl, rfl⟩) (ev_call (ea3 (ev_var rfl) (ev_call (ea3 (ev_var rfl) (ev_var rfl) (ev_call (ea2 (ev_var rfl) (ev_var rfl)) ⟨c.1, c.2, rfl, hp, by omega, rfl⟩)) ⟨c.1, T.2.1, _, rfl, hp, by omega, by omega, hT.ls.n2.sm hpl, rfl⟩) (ev_var rfl)) ⟨c.1, _, T.2.2, rfl, hp, by omega, by omega, (trim_nrm hp _).sm hpl, rfl⟩)) ⟨c.1, _, _, rfl, hp, by omega, by omega, rfl⟩)) ?_
    refine st_seq (st_set (ev_call (ea3 (ev_var rfl) (ev_call (ea3 (ev_var rfl) (ev_var rfl) (ev_var rfl)) ⟨c.1, T.2.2, T.2.2, rfl, hp, by omega, by omega, hT.ls.n3.sm hpl, rfl⟩) (ev_var rfl)) ⟨c.1, _, _, rfl, hp, by omega, by omega, (trim_nrm hp _).sm hpl, rfl⟩)) ?_
    exact st_ret (ev_call (ea4 (ev_meth (C := He.ga K "Function") (by decide +kernel) (ev_var rfl) ea_nil ⟨c, T, rfl, trivial, rfl⟩) (ev_call (ea3 (ev_var rfl) (ev_var rfl) (ev_var rfl)) ⟨c.1, _, _, rfl, hp, by omega, by omega, (trim_nrm hp _).sm hpl, rfl⟩) (ev_var rfl) (ev_var rfl)) ⟨c, _, _, _, rfl, ⟨cv, trim_nrm hp _, trim_nrm hp _, trim_nrm hp _, pmul_ne cv.pm (trim_nrm hp _) (trim_nrm hp _) (pmul_ne cv.pm hT.ls.n3 hT.ls.n3 hT.ls.ne hT.ls.ne) (twice_ne cv.pm cv.nr cv.ne), by omega, by omega, by omega⟩, rfl⟩)
abbrev s_check_function : Stmt := top 50
abbrev nm_check_function : List Str := ["function"]
theorem sc_check_function : FnScope nm_check_function ["function"] (defScope s_check_function) := ⟨rfl, rfl, rfl, by decide +kernel, rfl, by decide +kernel, by decide +kernel⟩
theorem ok_check_function (fx : Fx K mg) (F : FunD K "check_function" "check_function" (defArgs s_check_function) (defBody s_check_function) (defScope s_check_function) [] [] f fd) : FnOk P w K mg base CX0 1 f fd ["function"] (spD K (p_check_function K)) := by
  refine F.ok sc_check_function (spD_len (n := 1) ?_) (fun cdv A outer s H vs Q E hr h => ⟨_, PSs.nox ((pss_one (ps_if (pt_not (pt_val (pe_callB (call_isC fx.ic_Function) (by rfl) fx.b_isinstance (by decide +kernel) (pa_cons (pv 0) (pa_cons (pe_gc rfl fx.g_Function) pa_nil))))) (pss_one ps_never) pss_nil))), run_defN (N := nm_check_function) (fun ds d p => ?_) vs H Q E h⟩)
  · rintro ds d ⟨_, _, rfl, _⟩; rfl
  ·
    obtain ⟨c, T, rfl, _, rfl⟩ := p
    refine ⟨rfl, [.val (fnD K c T)], ?_⟩
    show StD K _ [.val (fnD K c T)] _
    exact st_if (eb_not (eb_val (ev_isC (ev_var rfl)))) (fun h => nomatch h) fun _ => st_nil
abbrev s_check_both : Stmt := top 51
abbrev nm_check_both : List Str := ["one", "other"]
theorem sc_check_both : FnScope nm_check_both ["one", "other"] (defScope s_check_both) := ⟨rfl, rfl, rfl, by decide +kernel, rfl, by decide +kernel, by decide +kernel⟩
theorem ok_check_both (fx : Fx K mg) (c_check_function : Cal P w K mg base 1 "check_function" (spD K (p_check_function K)) []) (m_Function_curve : Met P w K mg base 1 (He.ga K "Function") "curve" (spD K (p_Function_curve K)) []) (m_Curve___eq__ : Met P w K mg base 1 (He.ga K "Curve") "__eq__" (spD K (p_Curve___eq__ K)) []) (F : FunD K "check_both" "check_both" (defArgs s_check_both) (defBody s_check_both) (defScope s_check_both) [] [] f fd) : FnOk P w K mg base CX0 2 f fd ["one", "other"] (spD K (p_check_both K)) := by
  refine F.ok sc_check_both (spD_len (n := 2) ?_) (fun cdv A outer s H vs Q E hr h => ⟨_, PSs.nox ((pss_cons (ps_expr (pe_c c_check_function hr (by decide) rfl (pa_cons (pv 0) pa_nil)))
      (pss_cons (ps_expr (pe_c c_check_function hr (by decide) rfl (pa_cons (pv 1) pa_nil)))
      (pss_one (ps_if (pt_not (pt_cmpR (opOwn m_Curve___eq__ hr (by decide)) (pe_mt0 m_Function_curve hr (by decide) (pv 0)) (pe_mt0 m_Function_curve hr (by decide) (pv 1)) (nomark _))) (pss_one ps_never) pss_nil))))), run_defN (N := nm_check_both) (fun ds d p => ?_) vs H Q E h⟩)
  · rintro ds d ⟨_, _, _, rfl, _⟩; rfl
  ·
    obtain ⟨c, T, U, rfl, _, rfl⟩ := p
    refine ⟨rfl, [.val (fnD K c T), .val (fnD K c U)], ?_⟩
    show StD K _ [.val (fnD K c T), .val (fnD K c U)] _
    refine st_seq (st_drop (ev_call (ea1 (ev_var rfl)) ⟨c, T, rfl, trivial, rfl⟩)) (st_seq (st_drop (ev_call (ea1 (ev_var rfl)) ⟨c, U, rfl, trivial, rfl⟩)) ?_)
    exact st_if (eb_not (eb_test (ev_own (ev_meth (C := He.ga K "Function") (by decide +kernel) (ev_var rfl) ea_nil ⟨c, T, rfl, trivial, rfl⟩) (ev_meth (C := He.ga K "Function") (by decide +kernel) (ev_var rfl) ea_nil ⟨c, U, rfl, trivial, rfl⟩) ⟨c, rfl, trivial, rfl⟩))) (fun h => nomatch h) fun _ => st_nil
abbrev s_sum_of : Stmt := top 52
abbrev nm_sum_of : List Str := ["one", "other"]
theorem sc_sum_of : FnScope nm_sum_of ["one", "other"] (defScope s_sum_of) := ⟨rfl, rfl, rfl, by decide +kernel, rfl, by decide +kernel, by decide +kernel⟩
theorem ok_sum_of (fx : Fx K mg) (c_check_both : Cal P w K mg base 2 "check_both" (spD K (p_check_both K)) []) (c_plus : Cal P w K mg base 10 "plus" (spD K (p_plus K)) []) (F : FunD K "sum_of" "sum_of" (defArgs s_sum_of) (defBody s_sum_of) (defScope s_sum_of) [] [] f fd) : FnOk P w K mg base CX0 11 f fd ["one", "other"] (spD K (p_sum_of K)) := by
  refine F.ok sc_sum_of (spD_len (n := 2) ?_) (fun cdv A outer s H vs Q E hr h => ⟨_, PSs.nox ((pss_cons (ps_expr (pe_c c_check_both hr (by decide) rfl (pa_cons (pv 0) (pa_cons (pv 1) pa_nil))))
      (pss_one (ps_ret (pe_c c_plus hr (by decide) rfl (pa_cons (pv 0) (pa_cons (pv 1) pa_nil))))))), run_def (N := nm_sum_of) (fun ds d p => ?_) vs H Q E h⟩)
  · rintro ds d ⟨_, _, _, rfl, _⟩; rfl
  ·
    obtain ⟨c, T, U, rfl, h, rfl⟩ := p
    show StD K _ [.val (fnD K c T), .val (fnD K c U)] _
    refine st_seq (st_drop (ev_call (ea2 (ev_var rfl) (ev_var rfl)) ⟨c, T, U, rfl, trivial, rfl⟩)) ?_
    exact st_ret (ev_call (ea2 (ev_var rfl) (ev_var rfl)) ⟨c, T, U, rfl, h, rfl⟩)
abbrev s_less_of : Stmt := top 53
abbrev nm_less_of : List Str := ["one", "other"]
theorem sc_less_of : FnScope nm_less_of ["one", "other"] (defScope s_less_of) := ⟨rfl, rfl, rfl, by decide +kernel, rfl, by decide +kernel, by decide +kernel⟩
theorem ok_less_of (fx : Fx K mg) (c_check_both : Cal P w K mg base 2 "check_both" (spD K (p_check_both K)) []) (c_minus : Cal P w K mg base 11 "minus" (spD K (p_minus K)) []) (F : FunD K "less_of" "less_of" (defArgs s_less_of) (defBody s_less_of) (defScope s_less_of) [] [] f fd) : FnOk P w K mg base CX0 12 f fd ["one", "other"] (spD K (p_less_of K)) := by
  refine F.ok sc_less_of (spD_len (n := 2) ?_) (fun cdv A outer s H vs Q E hr h => ⟨_, PSs.nox ((pss_cons (ps_expr (pe_c c_check_both hr (by decide) rfl (pa_cons (pv 0) (pa_cons (pv 1) pa_nil))))
      (pss_one (ps_ret (pe_c c_minus hr (by decide) rfl (pa_cons (pv 0) (pa_cons (pv 1) pa_nil))))))), run_def (N := nm_less_of) (fun ds d p => ?_) vs H Q E h⟩)
  · rintro ds d ⟨_, _, _, rfl, _⟩; rfl
  ·
    obtain ⟨c, T, U, rfl, h, rfl⟩ := p
    show StD K _ [.val (fnD K c T), .val (fnD K c U)] _
    refine st_seq (st_drop (ev_call (ea2 (ev_var rfl) (ev_var rfl)) ⟨c, T, U, rfl, trivial, rfl⟩)) ?_
    exact st_ret (ev_call (ea2 (ev_var rfl) (ev_var rfl)) ⟨c, T, U, rfl, h, rfl⟩)
abbrev s_slope : Stmt := top 56
abbrev nm_slope : List Str := ["function"]
theorem sc_slope : FnScope nm_slope ["function"] (defScope s_slope) := ⟨rfl, rfl, rfl, by decide +kernel, rfl, by decide +kernel, by decide +kernel⟩
theorem ok_slope (fx : Fx K mg) (c_check_function : Cal P w K mg base 1 "check_function" (spD K (p_check_function K)) []) (c_slope_by : Cal P w K mg base 10 "slope_by" (spD K (p_slope_by K)) []) (F : FunD K "slope" "slope" (defArgs s_slope) (defBody s_slope) (defScope s_slope) [] [] f fd) : FnOk P w K mg base CX0 11 f fd ["function"] (spD K (p_slope K)) := by
  refine F.ok sc_slope (spD_len (n := 1) ?_) (fun cdv A outer s H vs Q E hr h => ⟨_, PSs.nox ((pss_cons (ps_expr (pe_c c_check_function hr (by decide) rfl (pa_cons (pv 0) pa_nil)))
      (pss_one (ps_ret (pe_c c_slope_by hr (by decide) rfl (pa_cons (pv 0) pa_nil)))))), run_def (N := nm_slope) (fun ds d p => ?_) vs H Q E h⟩)
  · rintro ds d ⟨_, _, rfl, _⟩; rfl
  ·
    obtain ⟨c, T, rfl, h, rfl⟩ := p
    show StD K _ [.val (fnD K c T)] _
    refine st_seq (st_drop (ev_call (ea1 (ev_var rfl)) ⟨c, T, rfl, trivial, rfl⟩)) ?_
    exact st_ret (ev_call (ea1 (ev_var rfl)) ⟨c, T, rfl, h, rfl⟩)
end
end Cw
set_option maxHeartbeats 4000000
namespace Cw
open PySem PySem.Spec PyProof.Rows L2
open C8 (Cal Met Mak pe_c pe_mk pe_mt pe_mt0 pe_gc InsC call_isC)
section
variable {P : Program} {w : World} {K : Fg} {mg : Str → Option Value} {base : Heap} {f : Addr} {fd : FuncData}
abbrev s_every : Stmt := top 58
abbrev nm_every : List Str := ["p", "poly", "first"]
theorem sc_every : FnScope nm_every ["p", "poly", "first"] (defScope s_every) := ⟨rfl, rfl, rfl, by decide +kernel, rfl, by decide +kernel, by decide +kernel⟩
theorem ok_every (fx : Fx K mg) (c_trimmed : Cal P w K mg base 1 "trimmed" (spD K p_trimmed) []) (F : FunD K "every" "every" (defArgs s_every) (defBody s_every) (defScope s_every) [] [] f fd) : FnOk P w K mg base CX0 2 f fd ["p", "poly", "first"] (spD K p_every) := by
  refine F.ok sc_every (spD_len (n := 3) ?_) (fun cdv A outer s H vs Q E hr h => ⟨_, PSs.nox ((pss_one (ps_ret (pe_c c_trimmed hr (by decide) rfl (pa_cons (pv 0) (pa_cons (pe_stepL K (pv 1) (pv 2) (pv 0)) pa_nil)))))), run_def (N := nm_every) (fun ds d p => ?_) vs H Q E h⟩)
  · rintro ds d ⟨_, _, _, rfl, _⟩; rfl
  ·
    obtain ⟨p, l, i, rfl, ⟨hp, hl⟩, rfl⟩ := p
    have hLM : LM = 1000000 := rfl
    have hk := pickA_len (xs := l) (f := i) hp
    show StD K _ [.val (.int p), .val (inD l), .val (.int i)] _
    exact st_ret (ev_call (ea2 (ev_var rfl) (ev_pub (en_stepT hp (ev_var rfl) (ev_var rfl) (ev_var rfl)))) ⟨p, _, rfl, hp, by omega, rfl⟩)
abbrev s_tops_over : Stmt := top 59
abbrev nm_tops_over : List Str := ["function", "p", "f", "top", "side", "bottom", "rest"]
theorem sc_tops_over : FnScope nm_tops_over ["function"] (defScope s_tops_over) := ⟨rfl, rfl, rfl, by decide +kernel, rfl, by decide +kernel, by decide +kernel⟩
theorem ok_tops_over (fx : Fx K mg) (c_parts_of : Cal P w K mg base 2 "parts_of" (spD K (p_parts_of K)) []) (c_power_of_polys : Cal P w K mg base 3 "power_of_polys" (spD K p_power_of) []) (c_multiplied : Cal P w K mg base 2 "multiplied" (spD K p_multiplied) []) (F : FunD K "tops_over" "tops_over" (defArgs s_tops_over) (defBody s_tops_over) (defScope s_tops_over) [] [] f fd) : FnOk P w K mg base CX0 4 f fd ["function"] (spD K (p_tops_over K)) := by
  refine F.ok sc_tops_over (spD_len (n := 1) ?_) (fun cdv A outer s H vs Q E hr h => ⟨_, PSs.nox ((pss_cons (ps_asg (pe_c c_parts_of hr (by decide) rfl (pa_cons (pv 0) pa_nil)) (pgt (n := 5) K rfl (pgs_cons (pg_name (i := 1) sc_tops_over.nd rfl (by first | exact Or.inl rfl | exact Or.inr rfl)) (pgs_cons (pg_name (i := 2) sc_tops_over.nd rfl (by first | exact Or.inl rfl | exact Or.inr rfl)) (pgs_cons (pg_name (i := 3) sc_tops_over.nd rfl (by first | exact Or.inl rfl | exact Or.inr rfl)) (pgs_cons (pg_name (i := 4) sc_tops_over.nd rfl (by first | exact Or.inl rfl | exact Or.inr rfl)) (pgs_cons (pg_name (i := 5) sc_tops_over.nd rfl (by first | exact Or.inl rfl | exact Or.inr rfl)) pgs_nil)))))))
      (pss_cons (ps_set (i := 6) sc_tops_over.nd rfl (by first | exact Or.inl rfl | exact Or.inr rfl) (pe_c c_power_of_polys hr (by decide) rfl (pa_cons (pv 1) (pa_cons (pv 5) (pa_cons (pe_op op_sub (pv 1) pe_int) pa_nil)))))
      (pss_one (ps_ret (pe_tup (pa_cons (pe_c c_multiplied hr (by decide) rfl (pa_cons (pv 1) (pa_cons (pv 3) (pa_cons (pv 6) pa_nil)))) (pa_cons (pe_c c_multiplied hr (by decide) rfl (pa_cons (pv 1) (pa_cons (pe_c c_multiplied hr (by decide) rfl (pa_cons (pv 1) (pa_cons (pv 4) (pa_cons (pv 6) pa_nil)))) (pa_cons (pe_c c_power_of_polys hr (by decide) rfl (pa_cons (pv 1) (pa_cons (pv 2) (pa_cons (pe_op op_fdiv (pe_op op_add (pv 1) pe_int) pe_int) pa_nil)))) pa_nil)))) pa_nil)))))))), run_def (N := nm_tops_over) (fun ds d p => ?_) vs H Q E h⟩)
  · rintro ds d ⟨_, _, rfl, _⟩; rfl
  ·
    obtain ⟨c, T, rfl, ⟨cv, hT⟩, rfl⟩ := p
    have hLM : LM = 1000000 := rfl
    have hp := cv.pos
    have hpl := cv.pm.le
    have hpg := cv.pm.ge
    have a1 := hT.sz
    have a3 := cv.len
    have l1 := ppow_len (p := c.1) (a := T.2.2) (n := (c.1 - 1).toNat)
    have k1 : (c.1 - 1).toNat * T.2.2.length ≤ 12 * 3000 := Nat.mul_le_mul (by omega) a1.2.2
    have l2 := ppow_len (p := c.1) (a := c.2) (n := ((c.1 + 1) / 2).toNat)
    have k2 : ((c.1 + 1) / 2).toNat * c.2.length ≤ 7 * 8 := Nat.mul_le_mul (by omega) a3
    have l3 := pmul_len (p := c.1) (a := T.2.1) (b := ppow c.1 T.2.2 (c.1 - 1).toNat)
    show StD K _ [.val (fnD K c T), .un, .un, .un, .un, .un, .un] _
    refine st_seq (st_unp5 (ev_call (ea1 (ev_var rfl)) ⟨c, T, rfl, trivial, rfl⟩)) ?_
    refine st_seq (st_set (ev_call (ea3 (ev_var rfl) (ev_var rfl) (ev_sub (ev_var rfl) ev_int)) ⟨c.1, T.2.2, c.1 - 1, rfl, hp, hpl, by omega, by omega, Nat.le_trans k1 (by decide), by omega, rfl⟩)) ?_
    exact st_ret (ev_tup (ea2 (ev_call (ea3 (ev_var rfl) (ev_var rfl) (ev_var rfl)) ⟨c.1, T.1, _, rfl, hp, by omega, by omega, hT.ls.n1.sm hpl, rfl⟩) (ev_call (ea3 (ev_var rfl) (ev_call (ea3 (ev_var rfl) (ev_var rfl) (ev_var rfl)) ⟨c.1, T.2.1, _, rfl, hp, by omega, by omega, hT.ls.n2.sm hpl, rfl⟩) (ev_call (ea3 (ev_var rfl) (ev_var rfl) (ev_fdiv (by unfold CDiv; omega) (ev_add (ev_var rfl) ev_int) ev_int)) ⟨c.1, c.2, (c.1 + 1) / 2, rfl, hp, hpl, by omega, by omega, Nat.le_trans k2 (by decide), by omega, rfl⟩)) ⟨c.1, _, _, rfl, hp, by omega, by omega, (trim_nrm hp _).sm hpl, rfl⟩)) (by show 2 ≤ sizeLine; decide))
abbrev s_parts_by : Stmt := top 60
abbrev nm_parts_by : List Str := ["function", "p", "f", "_", "bottom", "low", "high", "below", "found", "first", "tops"]
theorem sc_parts_by : FnScope nm_parts_by ["function"] (defScope s_parts_by) := ⟨rfl, rfl, rfl, by decide +kernel, rfl, by decide +kernel, by decide +kernel⟩
theorem ok_parts_by (fx : Fx K mg) (c_parts_of : Cal P w K mg base 2 "parts_of" (spD K (p_parts_of K)) []) (c_tops_over : Cal P w K mg base 4 "tops_over" (spD K (p_tops_over K)) []) (c_multiplied : Cal P w K mg base 2 "multiplied" (spD K p_multiplied) []) (c_every : Cal P w K mg base 2 "every" (spD K p_every) []) (c_made : Cal P w K mg base 9 "made" (spD K (p_made K)) []) (m_Function_curve : Met P w K mg base 1 (He.ga K "Function") "curve" (spD K (p_Function_curve K)) []) (F : FunD K "parts_by" "parts_by" (defArgs s_parts_by) (defBody s_parts_by) (defScope s_parts_by) [] [] f fd) : FnOk P w K mg base CX0 10 f fd ["function"] (spD K (p_parts_by K)) := by
  refine F.ok sc_parts_by (spD_len (n := 1) ?_) (fun cdv A outer s H vs Q E hr h => ⟨_, PSs.nox ((pss_cons (ps_asg (pe_c c_parts_of hr (by decide) rfl (pa_cons (pv 0) pa_nil)) (pgt (n := 5) K rfl (pgs_cons (pg_name (i := 1) sc_parts_by.nd rfl (by first | exact Or.inl rfl | exact Or.inr rfl)) (pgs_cons (pg_name (i := 2) sc_parts_by.nd rfl (by first | exact Or.inl rfl | exact Or.inr rfl)) (pgs_cons (pg_name (i := 3) sc_parts_by.nd rfl (by first | exact Or.inl rfl | exact Or.inr rfl)) (pgs_cons (pg_name (i := 3) sc_parts_by.nd rfl (by first | exact Or.inl rfl | exact Or.inr rfl)) (pgs_cons (pg_name (i := 4) sc_parts_by.nd rfl (by first | exact Or.inl rfl | exact Or.inr rfl)) pgs_nil)))))))
      (pss_cons (ps_asg (pe_c c_tops_over hr (by decide) rfl (pa_cons (pv 0) pa_nil)) (pgt (n := 2) K rfl (pgs_cons (pg_name (i := 5) sc_parts_by.nd rfl (by first | exact Or.inl rfl | exact Or.inr rfl)) (pgs_cons (pg_name (i := 6) sc_parts_by.nd rfl (by first | exact Or.inl rfl | exact Or.inr rfl)) pgs_nil))))
      (pss_cons (ps_set (i := 7) sc_parts_by.nd rfl (by first | exact Or.inl rfl | exact Or.inr rfl) (pe_c c_multiplied hr (by decide) rfl (pa_cons (pv 1) (pa_cons (pv 4) (pa_cons (pv 2) pa_nil)))))
      (pss_cons (ps_set (i := 8) sc_parts_by.nd rfl (by first | exact Or.inl rfl | exact Or.inr rfl) (pe_lst pa_nil))
      (pss_cons (ps_for PassesOwn.never rfl (pi_range1 (by rfl) fx.b_range (pa_cons (pv 1) pa_nil)) (pg_name (i := 9) sc_parts_by.nd rfl (by first | exact Or.inl rfl | exact Or.inr rfl))
      (pss_cons (ps_set (i := 10) sc_parts_by.nd rfl (by first | exact Or.inl rfl | exact Or.inr rfl) (pe_c c_multiplied hr (by decide) rfl (pa_cons (pv 1) (pa_cons (pe_c c_every hr (by decide) rfl (pa_cons (pv 1) (pa_cons (pv 5) (pa_cons (pv 9) pa_nil)))) (pa_cons (pv 2) pa_nil)))))
      (pss_one (ps_expr (pe_bm PySem.F.plainAttrs_list PySem.F.slot_list_append PySem.F.type_list_append mt_append (pv 8) (pa_cons (pe_c c_made hr (by decide) rfl (pa_cons (pe_mt0 m_Function_curve hr (by decide) (pv 0)) (pa_cons (pv 10) (pa_cons (pe_c c_every hr (by decide) rfl (pa_cons (pv 1) (pa_cons (pv 6) (pa_cons (pv 9) pa_nil)))) (pa_cons (pv 7) pa_nil))))) pa_nil))))))
      (pss_one (ps_ret (pv 8))))))))), run_def (N := nm_parts_by) (fun ds d p => ?_) vs H Q E h⟩)
  · rintro ds d ⟨_, _, rfl, _⟩; rfl
  ·
    obtain ⟨c, T, rfl, ⟨cv, hT⟩, rfl⟩ := p
    have hLM : LM = 1000000 := rfl
    have hp := cv.pos
    have hpl := cv.pm.le
    have hpg := cv.pm.ge
    have a1 := hT.sz
    have a3 := cv.len
    have h1 := fLow_len cv hT
    have h2 := fHigh_len cv hT
    have l3 := pmul_len (p := c.1) (a := T.2.2) (b := c.2)
    show StD K _ [.val (fnD K c T), .un, .un, .un, .un, .un, .un, .un, .un, .un, .un] _
    refine st_seq (st_unp5 (ev_call (ea1 (ev_var rfl)) ⟨c, T, rfl, trivial, rfl⟩)) ?_
    refine st_seq (st_unp2 (ev_call (ea1 (ev_var rfl)) ⟨c, T, rfl, ⟨cv, hT⟩, rfl⟩)) ?_
    refine st_seq (st_set (ev_call (ea3 (ev_var rfl) (ev_var rfl) (ev_var rfl)) ⟨c.1, T.2.2, c.2, rfl, hp, by omega, by omega, hT.ls.n3.sm hpl, rfl⟩)) ?_
    refine st_seq (st_setN en_lst0) ?_
    refine st_seq (G1 := [.val (fnD K c T), .val (.int c.1), .val (inD c.2), .val (inD T.2.1), .val (inD T.2.2), .val (inD (fLow c T)), .val (inD (fHigh c T)), .val (inD (pmul c.1 T.2.2 c.2)), .own ((fParts c T).map (fnD K c)), .un, .un]) ?_ (st_retO rfl)
    refine StD.nxc (st_for (K := K) (S := List Tri) (as := rangeI 0 c.1.toNat) (enc := D.int) (Gs := fun l => [.val (fnD K c T), .val (.int c.1), .val (inD c.2), .val (inD T.2.1), .val (inD T.2.2), .val (inD (fLow c T)), .val (inD (fHigh c T)), .val (inD (pmul c.1 T.2.2 c.2)), .own (l.map (fnD K c)), .un, .un]) (step := fun l i => l ++ [fPart c T i]) (s0 := []) (it_rng1 (n := c.1) (by omega) (ev_var (i := 1) rfl)) fun pre x post e => ⟨_, _, tg_name, ?_⟩) (by rw [foldl_snoc]; rfl)
    · have hx := rangeI_mem (mem_mid e)
      have hl : (pre.foldl (fun l i => l ++ [fPart c T i]) ([] : List Tri)).length ≤ LM := by
        rw [foldl_snoc]
        have := congrArg List.length e
        rw [rangeI_len, List.length_append] at this
        simp
        omega
      have e1 := pEvery_len (l := fLow c T) (i := x) hp
      have e2 := pEvery_len (l := fHigh c T) (i := x) hp
      have l4 := pmul_len (p := c.1) (a := pEvery c.1 (fLow c T) x) (b := c.2)
      generalize pre.foldl (fun l i => l ++ [fPart c T i]) ([] : List Tri) = acc at hl ⊢
      refine StD.lp (st_seq (st_set (ev_call (ea3 (ev_var rfl) (ev_call (ea3 (ev_var rfl) (ev_var rfl) (ev_var rfl)) ⟨c.1, _, x, rfl, ⟨hp, by omega⟩, rfl⟩) (ev_var rfl)) ⟨c.1, _, c.2, rfl, hp, by omega, by omega, (trim_nrm hp _).sm hpl, rfl⟩)) ?_)
      exact StD.weak (st_appT (l := acc) (x := fPart c T x) rfl hl (ev_call (ea4 (ev_meth (C := He.ga K "Function") (by decide +kernel) (ev_var rfl) ea_nil ⟨c, T, rfl, trivial, rfl⟩) (ev_var rfl) (ev_call (ea3 (ev_var rfl) (ev_var rfl) (ev_var rfl)) ⟨c.1, _, x, rfl, ⟨hp, by omega⟩, rfl⟩) (ev_var rfl)) ⟨c, _, _, _, rfl, ⟨cv, trim_nrm hp _, trim_nrm hp _, trim_nrm hp _, pmul_ne cv.pm hT.ls.n3 cv.nr hT.ls.ne cv.ne, by omega, by omega, by omega⟩, rfl⟩)) (.eq (.eq (.eq (.eq (.eq (.eq (.eq (.eq (.eq (.un (.un .nil)))))))))))
abbrev s_stretched : Stmt := top 61
abbrev nm_stretched : List Str := ["p", "poly", "found", "at", "number"]
theorem sc_stretched : FnScope nm_stretched ["p", "poly"] (defScope s_stretched) := ⟨rfl, rfl, rfl, by decide +kernel, rfl, by decide +kernel, by decide +kernel⟩
theorem ok_stretched (fx : Fx K mg) (F : FunD K "stretched" "stretched" (defArgs s_stretched) (defBody s_stretched) (defScope s_stretched) [] [] f fd) : FnOk P w K mg base CX0 1 f fd ["p", "poly"] (spD K p_stretched) := by
  refine F.ok sc_stretched (spD_len (n := 2) ?_) (fun cdv A outer s H vs Q E hr h => ⟨_, PSs.nox ((pss_cons (ps_set (i := 2) sc_stretched.nd rfl (by first | exact Or.inl rfl | exact Or.inr rfl) (pe_ifExp (pt_cmpR (opNe K hr.units) (pv 1) (pe_lst pa_nil) (nomark _)) (pe_op op_rep (pe_lst (pa_cons pe_int pa_nil)) (pe_op op_add (pe_op op_mul (pv 0) (pe_op op_sub (pe_callB (lenS K) (by rfl) fx.b_len (by decide +kernel) (pa_cons (pv 1) pa_nil)) pe_int)) pe_int)) (pe_lst pa_nil)))
      (pss_cons (ps_for PassesOwn.never rfl (pien K (by rfl) fx.b_enumerate (pa_cons (pv 1) pa_nil)) (pgt (n := 2) K rfl (pgs_cons (pg_name (i := 3) sc_stretched.nd rfl (by first | exact Or.inl rfl | exact Or.inr rfl)) (pgs_cons (pg_name (i := 4) sc_stretched.nd rfl (by first | exact Or.inl rfl | exact Or.inr rfl)) pgs_nil)))
      (pss_one (ps_asg (pv 4) (pg_sub (pv 2) (pe_op op_mul (pv 0) (pv 3)) set_list))))
      (pss_one (ps_ret (pv 2)))))), run_def (N := nm_stretched) (fun ds d p => ?_) vs H Q E h⟩)
  · rintro ds d ⟨_, _, rfl, _⟩; rfl
  ·
    obtain ⟨p, l, rfl, ⟨hp, hpl, hl⟩, rfl⟩ := p
    have hLM : LM = 1000000 := rfl
    have hb : l ≠ [] → 0 ≤ p * ((l.length : Int) - 1) ∧ p * ((l.length : Int) - 1) ≤ 13 * 10000 := fun z => by
      have := List.length_pos_iff.mpr z
      exact ⟨Int.mul_nonneg (by omega) (by omega), Int.mul_le_mul (by omega) (by omega) (by omega) (by omega)⟩
    have e0 : pStretch p l = (enumI l).foldl (fun s q => s.set (p * q.1).toNat q.2) (if l = [] then [] else List.replicate (p * ((l.length : Int) - 1) + 1).toNat 0) := by
      unfold pStretch stF
      by_cases z : l = []
      · subst z; rfl
      · rw [if_neg z, if_neg z]
    rw [e0]
    show StD K _ [.val (.int p), .val (inD l), .un, .un, .un] _
    refine st_seq (st_setN (ds := ((if l = [] then [] else List.replicate (p * ((l.length : Int) - 1) + 1).toNat 0 : List Int)).map D.int) (en_if (eb_test (ev_ne0 (ev_var rfl).h)) (fun z => ?_) (fun z => ?_))) ?_
    · have z' : l ≠ [] := by simpa using z
      rw [if_neg z']
      have := hb z'
      exact en_repT (by omega) (ev_pub (en_lst1 ev_int)) (ev_add (ev_mulS (.inl (by omega)) (ev_var rfl) (ev_sub (ev_lenL (ev_var rfl).h) ev_int)) ev_int)
    · have z' : l = [] := by simpa using z
      rw [if_pos z']
      exact en_lst0
    refine st_seq (st_for (S := List Int) (as := enumI l) (Gs := fun s => [.val (.int p), .val (inD l), .own (s.map D.int), .un, .un]) (step := fun s q => s.set (p * q.1).toNat q.2) (it_enum (ev_var (i := 1) rfl)) fun pre x post e => ⟨_, _, tg_tup (tgs_cons tg_name (tgs_cons tg_name tgs_nil)) rfl, ?_⟩) (st_retO rfl)
    obtain ⟨i, x⟩ := x
    have hx := enumI_mem (mem_mid e)
    have hne : l ≠ [] := List.ne_nil_of_mem hx.2.2
    have hlen : (pre.foldl (fun s q => s.set (p * q.1).toNat q.2) (if l = [] then [] else List.replicate (p * ((l.length : Int) - 1) + 1).toNat 0 : List Int)).length = (p * ((l.length : Int) - 1) + 1).toNat := by
      rw [foldl_len _ (fun _ _ => by simp), if_neg hne, List.length_replicate]
    generalize pre.foldl (fun s q => s.set (p * q.1).toNat q.2) (if l = [] then [] else List.replicate (p * ((l.length : Int) - 1) + 1).toNat 0 : List Int) = acc at hlen ⊢
    have b1 : p * i ≤ p * ((l.length : Int) - 1) := Int.mul_le_mul_of_nonneg_left (by omega) (by omega)
    have b2 : 0 ≤ p * i := Int.mul_nonneg (by omega) (by omega)
    exact StD.lp (StD.weak (st_setL (l := acc) (i := 2) (j := p * i) (x := x) rfl b2 (by omega) (ev_var rfl) (ev_mulS (.inl (by omega)) (ev_var rfl) (ev_var rfl))) (.eq (.eq (.eq (.un (.un .nil))))))
abbrev s_parts : Stmt := top 62
abbrev nm_parts : List Str := ["one"]
theorem sc_parts : FnScope nm_parts ["one"] (defScope s_parts) := ⟨rfl, rfl, rfl, by decide +kernel, rfl, by decide +kernel, by decide +kernel⟩
theorem ok_parts (fx : Fx K mg) (c_check_function : Cal P w K mg base 1 "check_function" (spD K (p_check_function K)) []) (c_parts_by : Cal P w K mg base 10 "parts_by" (spD K (p_parts_by K)) []) (F : FunD K "parts" "parts" (defArgs s_parts) (defBody s_parts) (defScope s_parts) [] [] f fd) : FnOk P w K mg base CX0 11 f fd ["one"] (spD K (p_parts K)) := by
  refine F.ok sc_parts (spD_len (n := 1) ?_) (fun cdv A outer s H vs Q E hr h => ⟨_, PSs.nox ((pss_cons (ps_expr (pe_c c_check_function hr (by decide) rfl (pa_cons (pv 0) pa_nil)))
      (pss_one (ps_ret (pe_c c_parts_by hr (by decide) rfl (pa_cons (pv 0) pa_nil)))))), run_def (N := nm_parts) (fun ds d p => ?_) vs H Q E h⟩)
  · rintro ds d ⟨_, _, rfl, _⟩; rfl
  ·
    obtain ⟨c, T, rfl, h, rfl⟩ := p
    show StD K _ [.val (fnD K c T)] _
    refine st_seq (st_drop (ev_call (ea1 (ev_var rfl)) ⟨c, T, rfl, trivial, rfl⟩)) ?_
    exact st_ret (ev_call (ea1 (ev_var rfl)) ⟨c, T, rfl, h, rfl⟩)
abbrev s_descent_by : Stmt := top 64
abbrev nm_descent_by : List Str := ["function"]
theorem sc_descent_by : FnScope nm_descent_by ["function"] (defScope s_descent_by) := ⟨rfl, rfl, rfl, by decide +kernel, rfl, by decide +kernel, by decide +kernel⟩
theorem ok_descent_by (fx : Fx K mg) (c_parts_by : Cal P w K mg base 10 "parts_by" (spD K (p_parts_by K)) []) (F : FunD K "descent_by" "descent_by" (defArgs s_descent_by) (defBody s_descent_by) (defScope s_descent_by) [] [] f fd) : FnOk P w K mg base CX0 11 f fd ["function"] (spD K (p_descent_by K)) := by
  refine F.ok sc_descent_by (spD_len (n := 1) ?_) (fun cdv A outer s H vs Q E hr h => ⟨_, PSs.nox ((pss_one (ps_ret (pe_ix (ixl K) (pe_c c_parts_by hr (by decide) rfl (pa_cons (pv 0) pa_nil)) (pe_un un_neg pe_int) (fun _ _ => rfl))))), run_def (N := nm_descent_by) (fun ds d p => ?_) vs H Q E h⟩)
  · rintro ds d ⟨_, _, rfl, _⟩; rfl
  ·
    obtain ⟨c, T, rfl, ⟨cv, hT⟩, rfl⟩ := p
    show StD K _ [.val (fnD K c T)] _
    exact st_ret (ev_ixL (d := fnD K c (fLast c T)) (parts_last cv.pos) (ev_call (ea1 (ev_var rfl)) ⟨c, T, rfl, ⟨cv, hT⟩, rfl⟩) ev_m1)
abbrev s_descent : Stmt := top 65
abbrev nm_descent : List Str := ["one"]
theorem sc_descent : FnScope nm_descent ["one"] (defScope s_descent) := ⟨rfl, rfl, rfl, by decide +kernel, rfl, by decide +kernel, by decide +kernel⟩
theorem ok_descent (fx : Fx K mg) (c_check_function : Cal P w K mg base 1 "check_function" (spD K (p_check_function K)) []) (c_descent_by : Cal P w K mg base 11 "descent_by" (spD K (p_descent_by K)) []) (F : FunD K "descent" "descent" (defArgs s_descent) (defBody s_descent) (defScope s_descent) [] [] f fd) : FnOk P w K mg base CX0 12 f fd ["one"] (spD K (p_descent K)) := by
  refine F.ok sc_descent (spD_len (n := 1) ?_) (fun cdv A outer s H vs Q E hr h => ⟨_, PSs.nox ((pss_cons (ps_expr (pe_c c_check_function hr (by decide) rfl (pa_cons (pv 0) pa_nil)))
      (pss_one (ps_ret (pe_c c_descent_by hr (by decide) rfl (pa_cons (pv 0) pa_nil)))))), run_def (N := nm_descent) (fun ds d p => ?_) vs H Q E h⟩)
  · rintro ds d ⟨_, _, rfl, _⟩; rfl
  ·
    obtain ⟨c, T, rfl, h, rfl⟩ := p
    show StD K _ [.val (fnD K c T)] _
    refine st_seq (st_drop (ev_call (ea1 (ev_var rfl)) ⟨c, T, rfl, trivial, rfl⟩)) ?_
    exact st_ret (ev_call (ea1 (ev_var rfl)) ⟨c, T, rfl, h, rfl⟩)
end
end Cw
set_option maxHeartbeats 4000000
namespace Cw
open PySem PySem.Spec PyProof.Rows L2
open C8 (Cal Met Mak pe_c pe_mk pe_mt pe_mt0 pe_gc InsC call_isC)
section
variable {P : Program} {w : World} {K : Fg} {mg : Str → Option Value} {base : Heap} {f : Addr} {fd : FuncData}
abbrev s_slope_source : Stmt := top 67
abbrev nm_slope_source : List Str := ["function", "p", "f", "_", "bottom", "low", "high", "rest", "poly"]
theorem sc_slope_source : FnScope nm_slope_source ["function"] (defScope s_slope_source) := ⟨rfl, rfl, rfl, by decide +kernel, rfl, by decide +kernel, by decide +kernel⟩
theorem ok_slope_source (fx : Fx K mg) (c_parts_of : Cal P w K mg base 2 "parts_of" (spD K (p_parts_of K)) []) (c_power_of_polys : Cal P w K mg base 3 "power_of_polys" (spD K p_power_of) []) (c_made : Cal P w K mg base 9 "made" (spD K (p_made K)) []) (c_is_nought : Cal P w K mg base 2 "is_nought" (spD K (p_is_nought K)) []) (c_raised_source : Cal P w K mg base 2 "raised_source" (spD K p_raised_source) []) (c_multiplied : Cal P w K mg base 2 "multiplied" (spD K p_multiplied) []) (c_descent_by : Cal P w K mg base 11 "descent_by" (spD K (p_descent_by K)) []) (c_tops_over : Cal P w K mg base 4 "tops_over" (spD K (p_tops_over K)) []) (c_stretched : Cal P w K mg base 1 "stretched" (spD K p_stretched) []) (m_Function_curve : Met P w K mg base 1 (He.ga K "Function") "curve" (spD K (p_Function_curve K)) []) (F : FunD K "slope_source" "slope_source" (defArgs s_slope_source) (defBody s_slope_source) (defScope s_slope_source) [] [] f fd) : FnOk P w K mg base CX0 12 f fd ["function"] (spD K (p_slope_source K)) := by
  refine F.ok sc_slope_source (spD_len (n := 1) ?_) (fun cdv A outer s H vs Q E hr h => ⟨_, PSs.nox ((pss_cons (ps_if (pt_not (pt_val (pe_c c_is_nought hr (by decide) rfl (pa_cons (pe_c c_descent_by hr (by decide) rfl (pa_cons (pv 0) pa_nil)) pa_nil)))) (pss_one (ps_ret pe_non)) pss_nil)
      (pss_cons (ps_asg (pe_c c_parts_of hr (by decide) rfl (pa_cons (pv 0) pa_nil)) (pgt (n := 5) K rfl (pgs_cons (pg_name (i := 1) sc_slope_source.nd rfl (by first | exact Or.inl rfl | exact Or.inr rfl)) (pgs_cons (pg_name (i := 2) sc_slope_source.nd rfl (by first | exact Or.inl rfl | exact Or.inr rfl)) (pgs_cons (pg_name (i := 3) sc_slope_source.nd rfl (by first | exact Or.inl rfl | exact Or.inr rfl)) (pgs_cons (pg_name (i := 3) sc_slope_source.nd rfl (by first | exact Or.inl rfl | exact Or.inr rfl)) (pgs_cons (pg_name (i := 4) sc_slope_source.nd rfl (by first | exact Or.inl rfl | exact Or.inr rfl)) pgs_nil)))))))
      (pss_cons (ps_asg (pe_lc (own := [("poly", 8)]) rfl sc_slope_source.nd (pit K (pe_c c_tops_over hr (by decide) rfl (pa_cons (pv 0) pa_nil))) (blkOk_by (N := nm_slope_source) (sc := defScope s_slope_source) (by decide +kernel)) (fun _ _ _ _ _ => (pg_name (i := 8) sc_slope_source.nd rfl (by first | exact Or.inl rfl | exact Or.inr rfl))) (fun _ _ _ _ _ => pts_nil) (fun _ _ _ _ _ => (pe_c c_raised_source hr (by decide) rfl (pa_cons (pv 1) (pa_cons (pv 8) pa_nil))))) (pgl (n := 2) K rfl (pgs_cons (pg_name (i := 5) sc_slope_source.nd rfl (by first | exact Or.inl rfl | exact Or.inr rfl)) (pgs_cons (pg_name (i := 6) sc_slope_source.nd rfl (by first | exact Or.inl rfl | exact Or.inr rfl)) pgs_nil))))
      (pss_cons (ps_set (i := 7) sc_slope_source.nd rfl (by first | exact Or.inl rfl | exact Or.inr rfl) (pe_c c_power_of_polys hr (by decide) rfl (pa_cons (pv 1) (pa_cons (pv 2) (pa_cons (pe_op op_fdiv (pe_op op_add (pv 1) pe_int) pe_int) pa_nil)))))
      (pss_one (ps_ret (pe_c c_made hr (by decide) rfl (pa_cons (pe_mt0 m_Function_curve hr (by decide) (pv 0)) (pa_cons (pe_c c_multiplied hr (by decide) rfl (pa_cons (pv 1) (pa_cons (pv 5) (pa_cons (pv 7) pa_nil)))) (pa_cons (pv 6) (pa_cons (pe_c c_multiplied hr (by decide) rfl (pa_cons (pv 1) (pa_cons (pe_c c_stretched hr (by decide) rfl (pa_cons (pv 1) (pa_cons (pv 4) pa_nil))) (pa_cons (pv 7) pa_nil)))) pa_nil)))))))))))), run_def (N := nm_slope_source) (fun ds d p => ?_) vs H Q E h⟩)
  · rintro ds d ⟨_, _, rfl, _⟩; rfl
  ·
    obtain ⟨c, T, rfl, ⟨cv, hT⟩, rfl⟩ := p
    have hLM : LM = 1000000 := rfl
    have hp := cv.pos
    have hpl := cv.pm.le
    have hpg := cv.pm.ge
    have a1 := hT.sz
    have a3 := cv.len
    have h1 := fLow_len cv hT
    have h2 := fHigh_len cv hT
    have l2 := ppow_len (p := c.1) (a := c.2) (n := ((c.1 + 1) / 2).toNat)
    have k2 : ((c.1 + 1) / 2).toNat * c.2.length ≤ 7 * 8 := Nat.mul_le_mul (by omega) a3
    have s1 := pSrc_len (p := c.1) (l := fLow c T)
    have s2 := pSrc_len (p := c.1) (l := fHigh c T)
    have t1 := pStretch_len (p := c.1) (l := T.2.2) hp hpl
    have m1 := pmul_len (p := c.1) (a := pSrc c.1 (fLow c T)) (b := ppow c.1 c.2 ((c.1 + 1) / 2).toNat)
    have m2 := pmul_len (p := c.1) (a := pStretch c.1 T.2.2) (b := ppow c.1 c.2 ((c.1 + 1) / 2).toNat)
    have t2 := pStretch_nrm hp hT.ls.n3
    show StD K _ [.val (fnD K c T), .un, .un, .un, .un, .un, .un, .un, .un] _
    refine st_ifS (x := !decide (nought (fLast c T))) (eb_not (eb_val (ev_call (ea1 (ev_call (ea1 (ev_var rfl)) ⟨c, T, rfl, ⟨cv, hT⟩, rfl⟩)) ⟨c, fLast c T, rfl, trivial, rfl⟩))) (fun z => ?_) fun z => st_seqN ?_
    · have z' : ¬ nought (fLast c T) := by simpa using z
      rw [if_neg z']
      exact st_seqR (st_ret ev_non)
    have z' : nought (fLast c T) := by simpa using z
    rw [if_pos z']
    have hz := last_zero cv hT.ls z'
    refine st_seq (st_unp5 (ev_call (ea1 (ev_var rfl)) ⟨c, T, rfl, trivial, rfl⟩)) ?_
    refine st_seq (st_asg (ev_pub (en_lcT (as := [fLow c T, fHigh c T]) (enc := inD) inD (pSrc c.1) (by show 2 ≤ sizeLine; decide) (it_tup (ev_call (ea1 (ev_var (i := 0) rfl)) ⟨c, T, rfl, ⟨cv, hT⟩, rfl⟩)) fun pre x post e => ⟨_, _, tg_name, fun _ h => h, ev_call (ea2 (ev_var rfl) (ev_var rfl)) ⟨c.1, x, rfl, ⟨cv.pm, ?_⟩, rfl⟩⟩)) (tg_unl (tgs_cons (d := inD (pSrc c.1 (fLow c T))) tg_name (tgs_cons (d := inD (pSrc c.1 (fHigh c T))) tg_name tgs_nil)) rfl)) ?_
    · have hm := mem_mid e
      simp only [List.mem_cons, List.not_mem_nil, or_false] at hm
      rcases hm with rfl | rfl
      · exact ⟨trim_nrm hp _, by omega, fun k hk => (hz k hk).1⟩
      · exact ⟨trim_nrm hp _, by omega, fun k hk => (hz k hk).2⟩
    refine st_seq (st_set (ev_call (ea3 (ev_var rfl) (ev_var rfl) (ev_fdiv (by unfold CDiv; omega) (ev_add (ev_var rfl) ev_int) ev_int)) ⟨c.1, c.2, (c.1 + 1) / 2, rfl, hp, hpl, by omega, by omega, Nat.le_trans k2 (by decide), by omega, rfl⟩)) ?_
    exact st_ret (ev_call (ea4 (ev_meth (C := He.ga K "Function") (by decide +kernel) (ev_var rfl) ea_nil ⟨c, T, rfl, trivial, rfl⟩) (ev_call (ea3 (ev_var rfl) (ev_var rfl) (ev_var rfl)) ⟨c.1, _, _, rfl, hp, by omega, by omega, (trim_nrm hp _).sm hpl, rfl⟩) (ev_var rfl) (ev_call (ea3 (ev_var rfl) (ev_call (ea2 (ev_var rfl) (ev_var rfl)) ⟨c.1, T.2.2, rfl, ⟨hp, hpl, by omega⟩, rfl⟩) (ev_var rfl)) ⟨c.1, _, _, rfl, hp, by omega, by omega, t2.sm hpl, rfl⟩)) ⟨c, _, _, _, rfl, ⟨cv, trim_nrm hp _, trim_nrm hp _, trim_nrm hp _, pmul_ne cv.pm t2 (ppow_nrm (by omega) _) (pStretch_ne hp hT.ls.ne) (ppow_ne cv.pm cv.nr cv.ne _), by omega, by omega, by omega⟩, rfl⟩)
abbrev s_raised_source : Stmt := top 68
abbrev nm_raised_source : List Str := ["p", "poly", "found", "at", "number"]
theorem sc_raised_source : FnScope nm_raised_source ["p", "poly"] (defScope s_raised_source) := ⟨rfl, rfl, rfl, by decide +kernel, rfl, by decide +kernel, by decide +kernel⟩
theorem ok_raised_source (fx : Fx K mg) (c_trimmed : Cal P w K mg base 1 "trimmed" (spD K p_trimmed) []) (c_inverse : Cal P w K mg base 1 "inverse" (spD K p_inverse) []) (F : FunD K "raised_source" "raised_source" (defArgs s_raised_source) (defBody s_raised_source) (defScope s_raised_source) [] [] f fd) : FnOk P w K mg base CX0 2 f fd ["p", "poly"] (spD K p_raised_source) := by
  refine F.ok sc_raised_source (spD_len (n := 2) ?_) (fun cdv A outer s H vs Q E hr h => ⟨_, PSs.nox ((pss_cons (ps_set (i := 2) sc_raised_source.nd rfl (by first | exact Or.inl rfl | exact Or.inr rfl) (pe_op op_rep (pe_lst (pa_cons pe_int pa_nil)) (pe_op op_add (pe_callB (lenS K) (by rfl) fx.b_len (by decide +kernel) (pa_cons (pv 1) pa_nil)) pe_int)))
      (pss_cons (ps_for PassesOwn.never rfl (pien K (by rfl) fx.b_enumerate (pa_cons (pv 1) pa_nil)) (pgt (n := 2) K rfl (pgs_cons (pg_name (i := 3) sc_raised_source.nd rfl (by first | exact Or.inl rfl | exact Or.inr rfl)) (pgs_cons (pg_name (i := 4) sc_raised_source.nd rfl (by first | exact Or.inl rfl | exact Or.inr rfl)) pgs_nil)))
      (pss_one (ps_if (pt_cmpR op_ne (pv 4) pe_int (nomark _)) (pss_one (ps_asg (pe_op op_mul (pv 4) (pe_c c_inverse hr (by decide) rfl (pa_cons (pv 0) (pa_cons (pe_op op_add (pe_op op_mod (pv 3) (pv 0)) pe_int) pa_nil)))) (pg_sub (pv 2) (pe_op op_add (pv 3) pe_int) set_list))) pss_nil)))
      (pss_one (ps_ret (pe_c c_trimmed hr (by decide) rfl (pa_cons (pv 0) (pa_cons (pv 2) pa_nil)))))))), run_def (N := nm_raised_source) (fun ds d p => ?_) vs H Q E h⟩)
  · rintro ds d ⟨_, _, rfl, _⟩; rfl
  ·
    obtain ⟨p, l, rfl, ⟨hp, nl, hl, hz⟩, rfl⟩ := p
    have hLM : LM = 1000000 := rfl
    have hpp := hp.pos
    have hpl := hp.le
    show StD K _ [.val (.int p), .val (inD l), .un, .un, .un] _
    refine st_seq (st_setN (en_repT (by omega) (ev_pub (en_lst1 ev_int)) (ev_add (ev_lenL (ev_var rfl).h) ev_int))) ?_
    refine st_seq (st_for (S := List Int) (as := enumI l) (Gs := fun s => [.val (.int p), .val (inD l), .own (s.map D.int), .un, .un]) (step := fun s q => if q.2 = 0 then s else s.set (q.1 + 1).toNat (q.2 * pinv p (q.1 % p + 1))) (it_enum (ev_var (i := 1) rfl)) fun pre x post e => ⟨_, _, tg_tup (tgs_cons tg_name (tgs_cons tg_name tgs_nil)) rfl, ?_⟩) (st_pub (i := 2) rfl (st_ret (ev_call (ea2 (ev_var rfl) (ev_var rfl)) ⟨p, srF p l, rfl, hpp, ?_, rfl⟩)))
    · obtain ⟨i, x⟩ := x
      have hx := enumI_mem (mem_mid e)
      have hc := enumI_cf (mem_mid e)
      have hb := nl.bd hpp i.toNat
      have hlen : (pre.foldl (fun s q => if q.2 = 0 then s else s.set (q.1 + 1).toNat (q.2 * pinv p (q.1 % p + 1))) (List.replicate ((l.length : Int) + 1).toNat 0)).length = ((l.length : Int) + 1).toNat := by
        rw [foldl_len _ (fun _ _ => by split <;> simp), List.length_replicate]
      generalize pre.foldl (fun s q => if q.2 = 0 then s else s.set (q.1 + 1).toNat (q.2 * pinv p (q.1 % p + 1))) (List.replicate ((l.length : Int) + 1).toNat 0) = acc at hlen ⊢
      refine StD.lp (StD.weak (G1 := [.val (.int p), .val (inD l), .own ((if x = 0 then acc else acc.set (i + 1).toNat (x * pinv p (i % p + 1))).map D.int), .val (.int i), .val (.int x)]) (st_if (eb_test (ev_neI (ev_var rfl) ev_int)) (fun z => ?_) fun z => ?_) (.eq (.eq (.eq (.un (.un .nil))))))
      · have z' : x ≠ 0 := by simpa using z
        rw [if_neg z']
        have h0 := Int.emod_nonneg i (b := p) (by omega)
        have h1 := Int.emod_lt_of_pos i hpp
        have h2 : i % p ≠ p - 1 := fun y => z' (by
          rw [hc]
          exact hz i.toNat (by rw [Int.toNat_of_nonneg hx.1]; exact y))
        have h3 : (i % p + 1) % p = i % p + 1 := Int.emod_eq_of_lt (by omega) (by omega)
        exact st_setL (l := acc) (i := 2) (j := i + 1) (x := x * pinv p (i % p + 1)) rfl (by omega) (by omega) (ev_mulS (.inl (by omega)) (ev_var rfl) (ev_call (ea2 (ev_var rfl) (ev_add (ev_mod hpp (ev_var rfl) (ev_var rfl)) ev_int)) ⟨p, i % p + 1, rfl, hp, by omega, by omega, rfl⟩)) (ev_add (ev_var rfl) ev_int)
      · have z' : x = 0 := by simpa using z
        rw [if_pos z']
        exact st_nil
    · unfold srF
      rw [foldl_len _ (fun _ _ => by split <;> simp), List.length_replicate]
      omega
abbrev s_whose_slope : Stmt := top 69
abbrev nm_whose_slope : List Str := ["one"]
theorem sc_whose_slope : FnScope nm_whose_slope ["one"] (defScope s_whose_slope) := ⟨rfl, rfl, rfl, by decide +kernel, rfl, by decide +kernel, by decide +kernel⟩
theorem ok_whose_slope (fx : Fx K mg) (c_check_function : Cal P w K mg base 1 "check_function" (spD K (p_check_function K)) []) (c_slope_source : Cal P w K mg base 12 "slope_source" (spD K (p_slope_source K)) []) (F : FunD K "whose_slope" "whose_slope" (defArgs s_whose_slope) (defBody s_whose_slope) (defScope s_whose_slope) [] [] f fd) : FnOk P w K mg base CX0 13 f fd ["one"] (spD K (p_whose_slope K)) := by
  refine F.ok sc_whose_slope (spD_len (n := 1) ?_) (fun cdv A outer s H vs Q E hr h => ⟨_, PSs.nox ((pss_cons (ps_expr (pe_c c_check_function hr (by decide) rfl (pa_cons (pv 0) pa_nil)))
      (pss_one (ps_ret (pe_c c_slope_source hr (by decide) rfl (pa_cons (pv 0) pa_nil)))))), run_def (N := nm_whose_slope) (fun ds d p => ?_) vs H Q E h⟩)
  · rintro ds d ⟨_, _, rfl, _⟩; rfl
  ·
    obtain ⟨c, T, rfl, h, rfl⟩ := p
    show StD K _ [.val (fnD K c T)] _
    refine st_seq (st_drop (ev_call (ea1 (ev_var rfl)) ⟨c, T, rfl, trivial, rfl⟩)) ?_
    exact st_ret (ev_call (ea1 (ev_var rfl)) ⟨c, T, rfl, h, rfl⟩)
end
end Cw
set_option maxHeartbeats 4000000
namespace Cw
open PySem PySem.Spec PyProof.Rows L2
open C8 (Cal Met Mak pe_c pe_mk pe_mt pe_mt0 pe_gc InsC call_isC)
section
variable {P : Program} {w : World} {K : Fg} {mg : Str → Option Value} {base : Heap} {f : Addr} {fd : FuncData}
abbrev s__law_hash : Stmt := top 71
abbrev nm__law_hash : List Str := ["seed", "index", "mixed"]
theorem sc__law_hash : FnScope nm__law_hash ["seed", "index"] (defScope s__law_hash) := ⟨rfl, rfl, rfl, by decide +kernel, rfl, by decide +kernel, by decide +kernel⟩
theorem ok__law_hash (fx : Fx K mg) (F : FunD K "_law_hash" "_law_hash" (defArgs s__law_hash) (defBody s__law_hash) (defScope s__law_hash) [] [] f fd) : FnOk P w K mg base CX0 1 f fd ["seed", "index"] (spD K p__law_hash) := by
  refine F.ok sc__law_hash (spD_len (n := 2) ?_) (fun cdv A outer s H vs Q E hr h => ⟨_, PSs.nox ((pss_cons (ps_set (i := 2) sc__law_hash.nd rfl (by first | exact Or.inl rfl | exact Or.inr rfl) (pe_op op_mod (pe_callTy call_int1 (by rfl) fx.b_int (by decide +kernel) (pa_cons (pe_op op_add (pe_op op_add (pe_op op_add (pe_op op_mul (pv 0) pe_int) (pe_op op_mul (pe_op op_mul pe_int (pv 1)) (pv 1))) (pe_op op_mul pe_int (pv 1))) pe_int) pa_nil)) pe_int))
      (pss_cons (ps_set (i := 2) sc__law_hash.nd rfl (by first | exact Or.inl rfl | exact Or.inr rfl) (pe_op op_mod (pe_callTy call_int1 (by rfl) fx.b_int (by decide +kernel) (pa_cons (pe_op op_add (pe_op op_add (pe_op op_mul (pv 2) (pv 2)) (pe_op op_mul pe_int (pv 1))) pe_int) pa_nil)) pe_int))
      (pss_one (ps_ret (pe_op op_mod (pe_callTy call_int1 (by rfl) fx.b_int (by decide +kernel) (pa_cons (pe_op op_mul (pv 2) pe_int) pa_nil)) pe_int)))))), run_def (N := nm__law_hash) (fun ds d p => ?_) vs H Q E h⟩)
  · rintro ds d ⟨_, _, rfl, _⟩; rfl
  ·
    obtain ⟨s, i, rfl, ⟨h1, h2, h3, h4⟩, rfl⟩ := p
    show StD K _ [.val (.int s), .val (.int i), .un] _
    refine st_seq (st_set (ev_mod (by decide) (ev_intc (ev_add (ev_add (ev_add (ev_mulS (.inr (by decide)) (ev_var rfl) ev_int) (ev_mulS (.inr (by omega)) (ev_mulS (.inl (by decide)) ev_int (ev_var rfl)) (ev_var rfl))) (ev_mulS (.inl (by decide)) ev_int (ev_var rfl))) ev_int)) ev_int)) ?_
    generalize hm : (s * 1140671 + 27644437 * i * i + 131 * i + 19) % 2147483629 = m
    have m0 : 0 ≤ m := by rw [← hm]; exact Int.emod_nonneg _ (by decide)
    have m1 : m < 2147483629 := by rw [← hm]; exact Int.emod_lt_of_pos _ (by decide)
    refine st_seq (st_set (ev_mod (by decide) (ev_intc (ev_add (ev_add (ev_mulS (.inl (by omega)) (ev_var rfl) (ev_var rfl)) (ev_mulS (.inl (by decide)) ev_int (ev_var rfl))) ev_int)) ev_int)) ?_
    exact st_ret ((ev_mod (by decide) (ev_intc (ev_mulS (.inr (by decide)) (ev_var rfl) ev_int)) ev_int).cast (by unfold lawHash; rw [hm]))
abbrev s__law_cell : Stmt := top 73
abbrev nm__law_cell : List Str := ["script", "index"]
theorem sc__law_cell : FnScope nm__law_cell ["script", "index"] (defScope s__law_cell) := ⟨rfl, rfl, rfl, by decide +kernel, rfl, by decide +kernel, by decide +kernel⟩
theorem ok__law_cell (fx : Fx K mg) (F : FunD K "_law_cell" "_law_cell" (defArgs s__law_cell) (defBody s__law_cell) (defScope s__law_cell) [] [] f fd) : FnOk P w K mg base CX0 1 f fd ["script", "index"] (spD K p__law_cell) := by
  refine F.ok sc__law_cell (spD_len (n := 2) ?_) (fun cdv A outer s H vs Q E hr h => ⟨_, PSs.nox ((pss_cons (ps_if (pt_cmpR op_lt (pv 1) (pe_callB (lenS K) (by rfl) fx.b_len (by decide +kernel) (pa_cons (pv 0) pa_nil)) (nomark _)) (pss_one (ps_ret (pe_ix (ixl K) (pv 0) (pv 1) (fun _ _ => rfl)))) pss_nil)
      (pss_one (ps_ret (pe_op op_mod (pe_callB (sumS K rfl) (by rfl) fx.b_sum (by decide +kernel) (pa_cons (pe_slice (sll K) (pv 0) po_none (po_some pe_int)) pa_nil)) pe_int))))), run_def (N := nm__law_cell) (fun ds d p => ?_) vs H Q E h⟩)
  · rintro ds d ⟨_, _, rfl, _⟩; rfl
  ·
    obtain ⟨ns, i, rfl, rfl, rfl⟩ := p
    show StD K _ [.val (.scr ns), .val (.int 0)] _
    by_cases hn : ns = []
    · subst hn
      refine st_ifS (x := false) ((eb_test (ev_lt (ev_var rfl) (ev_lenS (ev_var rfl)))).cast (by simp)) (fun h => nomatch h) fun _ => st_seqN ?_
      exact st_ret ((ev_mod (by decide) (ev_cb (ea1 (ev_pub ((en_sliceS (ev_var rfl) eo_no (eo_some ev_int)).cast (es := ([] : List Int).map D.int) rfl))) oa_sum) ev_int).cast rfl)
    · refine st_ifS (x := true) ((eb_test (ev_lt (ev_var rfl) (ev_lenS (ev_var rfl)))).cast (by have := List.length_pos_iff.mpr hn; simp; omega)) (fun _ => st_seqR (st_ret ((ev_ixS (by decide) (by have := List.length_pos_iff.mpr hn; omega) (ev_var rfl) (ev_var rfl)).cast ?_))) (fun h => nomatch h)
      cases ns with
      | nil => exact absurd rfl hn
      | cons x r => rfl
abbrev s__law_trim : Stmt := top 75
abbrev nm__law_trim : List Str := ["p", "row", "found", "turn", "number"]
theorem sc__law_trim : FnScope nm__law_trim ["p", "row"] (defScope s__law_trim) := ⟨rfl, rfl, rfl, by decide +kernel, rfl, by decide +kernel, by decide +kernel⟩
theorem ok__law_trim (fx : Fx K mg) (F : FunD K "_law_trim" "_law_trim" (defArgs s__law_trim) (defBody s__law_trim) (defScope s__law_trim) [] [] f fd) : FnOk P w K mg base CX0 1 f fd ["p", "row"] (spD K p__law_trim) := by
  refine F.ok sc__law_trim (spD_len (n := 2) ?_) (fun cdv A outer s H vs Q E hr h => ⟨_, PSs.nox ((pss_cons (ps_setLc (i := 2) (own := [("number", 4)]) rfl sc__law_trim.nd rfl rfl (sw_true rfl rfl rfl (by decide +kernel)) (pil K (pv 1)) (blkOk_by (N := nm__law_trim) (sc := defScope s__law_trim) (by decide +kernel)) (fun _ _ _ _ _ => (pg_name (i := 4) sc__law_trim.nd rfl (by first | exact Or.inl rfl | exact Or.inr rfl))) (fun _ _ _ _ _ => pts_nil) (fun _ _ _ _ _ => (pe_op op_mod (pe_callTy call_int1 (by rfl) fx.b_int (by decide +kernel) (pa_cons (pv 4) pa_nil)) (pv 0))))
      (pss_cons (ps_for PassesOwn.never rfl (pi_range1 (by rfl) fx.b_range (pa_cons (pe_callB (lenS K) (by rfl) fx.b_len (by decide +kernel) (pa_cons (pv 1) pa_nil)) pa_nil)) (pg_name (i := 3) sc__law_trim.nd rfl (by first | exact Or.inl rfl | exact Or.inr rfl))
      (pss_one (ps_if (PW.pt (pw_and (pt_cmpR (opNe K hr.units) (pv 2) (pe_lst pa_nil) (nomark _)) (pw_and1 (pt_cmpR op_eq (pe_ix (ixl K) (pv 2) (pe_un un_neg pe_int) (fun _ _ => rfl)) pe_int (nomark _))))) (pss_one (ps_set (i := 2) sc__law_trim.nd rfl (by first | exact Or.inl rfl | exact Or.inr rfl) (pe_slice (sll K) (pv 2) po_none (po_some (pe_un un_neg pe_int))))) pss_nil)))
      (pss_one (ps_ret (pv 2)))))), run_def (N := nm__law_trim) (fun ds d p => ?_) vs H Q E h⟩)
  · rintro ds d ⟨_, _, rfl, _⟩; rfl
  ·
    obtain ⟨p, ns, rfl, hp, hl, rfl⟩ := p
    have hLM : LM = 1000000 := rfl
    show StD K _ [.val (.int p), .val (inD ns), .un, .un, .un] _
    refine st_seq (st_setN (en_lcT D.int (fun x => x % p) (Nat.le_trans hl (by decide)) (it_list (ev_var rfl)) fun pre x post e => ⟨_, _, tg_name, fun _ h => h, ev_mod hp (ev_intc (ev_var rfl)) (ev_var rfl)⟩)) ?_
    refine st_pub (i := 2) rfl ?_
    show StD K _ [.val (.int p), .val (inD ns), .val (inD (ns.map (· % p))), .un, .un] _
    refine st_seq (st_for (S := List Int) (as := rangeI 0 ns.length) (enc := D.int) (Gs := fun l => [.val (.int p), .val (inD ns), .val (inD l), .un, .un]) (step := fun l _ => if !decide (l = []) && decide (lastI l = 0) then l.dropLast else l) (it_rng1 (n := ns.length) (by omega) (ev_lenL (ev_var (i := 1) rfl).h)) fun pre x post e => ⟨_, _, tg_name, ?_⟩) ?_
    · generalize pre.foldl (fun (l : List Int) (_ : Int) => if !decide (l = []) && decide (lastI l = 0) then l.dropLast else l) (ns.map (· % p)) = l
      refine StD.lp (StD.weak (G1 := [.val (.int p), .val (inD ns), .val (inD (if !decide (l = []) && decide (lastI l = 0) then l.dropLast else l)), .val (.int x), .un]) (st_if (eb_and (eb_test (ev_ne0 (ev_var rfl).h)) fun h => eb_test (ev_eqI (ev_ixN (by simpa using h) (ev_var rfl) ev_m1) ev_int)) (fun z => ?_) fun z => ?_) (.eq (.eq (.eq (.un (.un .nil))))))
      · rw [if_pos z]
        exact st_set (ev_pub ((en_slice (ev_var rfl) eo_no (eo_some ev_m1)).cast (cut_last _)))
      · rw [if_neg (by rw [z]; decide)]
        exact st_nil
    · rw [drop_fold _ _ (by simp [rangeI_len])]
      exact st_ret (ev_var rfl)
abbrev s__law_add : Stmt := top 76
abbrev nm__law_add : List Str := ["p", "one", "other", "many", "low", "high", "at"]
theorem sc__law_add : FnScope nm__law_add ["p", "one", "other"] (defScope s__law_add) := ⟨rfl, rfl, rfl, by decide +kernel, rfl, by decide +kernel, by decide +kernel⟩
theorem ok__law_add (fx : Fx K mg) (c__law_trim : Cal P w K mg base 1 "_law_trim" (spD K p__law_trim) []) (F : FunD K "_law_add" "_law_add" (defArgs s__law_add) (defBody s__law_add) (defScope s__law_add) [] [] f fd) : FnOk P w K mg base CX0 2 f fd ["p", "one", "other"] (spD K p__law_add) := by
  refine F.ok sc__law_add (spD_len (n := 3) ?_) (fun cdv A outer s H vs Q E hr h => ⟨_, PSs.nox ((pss_cons (ps_set (i := 3) sc__law_add.nd rfl (by first | exact Or.inl rfl | exact Or.inr rfl) (pe_callB (call_max2 rfl) (by rfl) fx.b_max (by decide +kernel) (pa_cons (pe_callB (lenS K) (by rfl) fx.b_len (by decide +kernel) (pa_cons (pv 1) pa_nil)) (pa_cons (pe_callB (lenS K) (by rfl) fx.b_len (by decide +kernel) (pa_cons (pv 2) pa_nil)) pa_nil))))
      (pss_cons (ps_asg (pe_tup (pa_cons (pe_op op_cat (pv 1) (pe_op op_rep (pe_lst (pa_cons pe_int pa_nil)) (pe_op op_sub (pv 3) (pe_callB (lenS K) (by rfl) fx.b_len (by decide +kernel) (pa_cons (pv 1) pa_nil))))) (pa_cons (pe_op op_cat (pv 2) (pe_op op_rep (pe_lst (pa_cons pe_int pa_nil)) (pe_op op_sub (pv 3) (pe_callB (lenS K) (by rfl) fx.b_len (by decide +kernel) (pa_cons (pv 2) pa_nil))))) pa_nil))) (pgt (n := 2) K rfl (pgs_cons (pg_name (i := 4) sc__law_add.nd rfl (by first | exact Or.inl rfl | exact Or.inr rfl)) (pgs_cons (pg_name (i := 5) sc__law_add.nd rfl (by first | exact Or.inl rfl | exact Or.inr rfl)) pgs_nil))))
      (pss_one (ps_ret (pe_c c__law_trim hr (by decide) rfl (pa_cons (pv 0) (pa_cons (pe_lc (own := [("at", 6)]) rfl sc__law_add.nd (pi_range1 (by rfl) fx.b_range (pa_cons (pv 3) pa_nil)) (blkOk_by (N := nm__law_add) (sc := defScope s__law_add) (by decide +kernel)) (fun _ _ _ _ _ => (pg_name (i := 6) sc__law_add.nd rfl (by first | exact Or.inl rfl | exact Or.inr rfl))) (fun _ _ _ _ _ => pts_nil) (fun _ _ _ _ _ => (pe_op op_add (pe_ix (ixl K) (pv 4) (pv 6) (fun _ _ => rfl)) (pe_ix (ixl K) (pv 5) (pv 6) (fun _ _ => rfl))))) pa_nil)))))))), run_def (N := nm__law_add) (fun ds d p => ?_) vs H Q E h⟩)
  · rintro ds d ⟨_, _, _, rfl, _⟩; rfl
  ·
    obtain ⟨p, a, b, rfl, hp, ha, hb, rfl⟩ := p
    have hLM : LM = 1000000 := rfl
    show StD K _ [.val (.int p), .val (inD a), .val (inD b), .un, .un, .un, .un] _
    refine st_seq (st_set (ev_max (ev_lenL (ev_var rfl).h) (ev_lenL (ev_var rfl).h))) ?_
    have pad : ∀ (l : List Int), l.length ≤ LM → l.length ≤ max a.length b.length → (l ++ List.replicate (max (a.length : Int) b.length - l.length).toNat 0).length = max a.length b.length := fun l _ h => by
      rw [List.length_append, List.length_replicate]; omega
    have cfp : ∀ (l : List Int) (n i : Nat), cf (l ++ List.replicate n 0) i = cf l i := fun l n i => by
      rw [cf_app]; split
      · rfl
      · rw [cf_rep, cf_out (by omega)]
    refine st_seq (st_parT (em_v (ev_pub (en_catT (by rw [List.length_replicate]; omega) (ev_var rfl) (ev_pub (en_repT (by omega) (ev_pub (en_lst1 ev_int)) (ev_sub (ev_var rfl) (ev_lenL (ev_var rfl).h))))))) (em_v (ev_pub (en_catT (by rw [List.length_replicate]; omega) (ev_var rfl) (ev_pub (en_repT (by omega) (ev_pub (en_lst1 ev_int)) (ev_sub (ev_var rfl) (ev_lenL (ev_var rfl).h))))))) (fun h => nomatch h) (fun h => nomatch h)) ?_
    have pa := pad a ha (by omega)
    have pb := pad b hb (by omega)
    refine st_ret (ev_call (ea2 (ev_var rfl) (ev_pub (en_lcT D.int (fun k : Int => cf a k.toNat + cf b k.toNat) (by rw [rangeI_len]; exact LMs (by omega)) (it_rng1 (n := max (a.length : Int) b.length) (by omega) (ev_var rfl)) fun pre x post e => ⟨_, _, tg_name, fun _ h => h, (ev_add (ev_ixI (by have := rangeI_mem (mem_mid e); omega) (by have := rangeI_mem (mem_mid e); rw [pa]; omega) (ev_var rfl) (ev_var rfl)) (ev_ixI (by have := rangeI_mem (mem_mid e); omega) (by have := rangeI_mem (mem_mid e); rw [pb]; omega) (ev_var rfl) (ev_var rfl))).cast (by rw [cfp, cfp])⟩))) ⟨_, _, rfl, hp, by rw [List.length_map, rangeI_len]; omega, ?_⟩)
    unfold padd mk
    rw [rangeI_map, show (max (a.length : Int) b.length).toNat = max a.length b.length by omega]
    rfl
abbrev s__law_scale : Stmt := top 77
abbrev nm__law_scale : List Str := ["p", "one", "number", "item"]
theorem sc__law_scale : FnScope nm__law_scale ["p", "one", "number"] (defScope s__law_scale) := ⟨rfl, rfl, rfl, by decide +kernel, rfl, by decide +kernel, by decide +kernel⟩
theorem ok__law_scale (fx : Fx K mg) (c__law_trim : Cal P w K mg base 1 "_law_trim" (spD K p__law_trim) []) (F : FunD K "_law_scale" "_law_scale" (defArgs s__law_scale) (defBody s__law_scale) (defScope s__law_scale) [] [] f fd) : FnOk P w K mg base CX0 2 f fd ["p", "one", "number"] (spD K p__law_scale) := by
  refine F.ok sc__law_scale (spD_len (n := 3) ?_) (fun cdv A outer s H vs Q E hr h => ⟨_, PSs.nox ((pss_one (ps_ret (pe_c c__law_trim hr (by decide) rfl (pa_cons (pv 0) (pa_cons (pe_lc (own := [("item", 3)]) rfl sc__law_scale.nd (pil K (pv 1)) (blkOk_by (N := nm__law_scale) (sc := defScope s__law_scale) (by decide +kernel)) (fun _ _ _ _ _ => (pg_name (i := 3) sc__law_scale.nd rfl (by first | exact Or.inl rfl | exact Or.inr rfl))) (fun _ _ _ _ _ => pts_nil) (fun _ _ _ _ _ => (pe_op op_mul (pv 2) (pv 3)))) pa_nil)))))), run_def (N := nm__law_scale) (fun ds d p => ?_) vs H Q E h⟩)
  · rintro ds d ⟨_, _, _, rfl, _⟩; rfl
  ·
    obtain ⟨p, a, n, rfl, hp, hl, hn, rfl⟩ := p
    show StD K _ [.val (.int p), .val (inD a), .val (.int n), .un] _
    exact st_ret (ev_call (ea2 (ev_var rfl) (ev_pub (en_lcT D.int (fun x => x * n) (LMs (by omega)) (it_list (ev_var rfl)) fun _ x _ _ => ⟨_, _, tg_name, fun _ h => h, (ev_mulS (i := n) (j := x) (.inl hn) (ev_var rfl) (ev_var rfl)).cast (by rw [Int.mul_comm])⟩))) ⟨_, _, rfl, hp, by rw [List.length_map]; omega, rfl⟩)
abbrev s__law_mul : Stmt := top 78
abbrev nm__law_mul : List Str := ["p", "one", "other", "found", "at", "low", "place", "high"]
theorem sc__law_mul : FnScope nm__law_mul ["p", "one", "other"] (defScope s__law_mul) := ⟨rfl, rfl, rfl, by decide +kernel, rfl, by decide +kernel, by decide +kernel⟩
theorem ok__law_mul (fx : Fx K mg) (c__law_trim : Cal P w K mg base 1 "_law_trim" (spD K p__law_trim) []) (F : FunD K "_law_mul" "_law_mul" (defArgs s__law_mul) (defBody s__law_mul) (defScope s__law_mul) [] [] f fd) : FnOk P w K mg base CX0 2 f fd ["p", "one", "other"] (spD K p__law_mul) := by
  refine F.ok sc__law_mul (spD_len (n := 3) ?_) (fun cdv A outer s H vs Q E hr h => ⟨_, PSs.nox ((pss_cons (ps_set (i := 3) sc__law_mul.nd rfl (by first | exact Or.inl rfl | exact Or.inr rfl) (pe_op op_rep (pe_lst (pa_cons pe_int pa_nil)) (pe_callB (call_max2 rfl) (by rfl) fx.b_max (by decide +kernel) (pa_cons (pe_op op_sub (pe_op op_add (pe_callB (lenS K) (by rfl) fx.b_len (by decide +kernel) (pa_cons (pv 1) pa_nil)) (pe_callB (lenS K) (by rfl) fx.b_len (by decide +kernel) (pa_cons (pv 2) pa_nil))) pe_int) (pa_cons pe_int pa_nil)))))
      (pss_cons (ps_for PassesOwn.never rfl (pien K (by rfl) fx.b_enumerate (pa_cons (pv 1) pa_nil)) (pgt (n := 2) K rfl (pgs_cons (pg_name (i := 4) sc__law_mul.nd rfl (by first | exact Or.inl rfl | exact Or.inr rfl)) (pgs_cons (pg_name (i := 5) sc__law_mul.nd rfl (by first | exact Or.inl rfl | exact Or.inr rfl)) pgs_nil)))
      (pss_one (ps_if (pt_cmpR op_ne (pv 5) pe_int (nomark _)) (pss_one (ps_for PassesOwn.never rfl (pien K (by rfl) fx.b_enumerate (pa_cons (pv 2) pa_nil)) (pgt (n := 2) K rfl (pgs_cons (pg_name (i := 6) sc__law_mul.nd rfl (by first | exact Or.inl rfl | exact Or.inr rfl)) (pgs_cons (pg_name (i := 7) sc__law_mul.nd rfl (by first | exact Or.inl rfl | exact Or.inr rfl)) pgs_nil)))
      (pss_one (ps_asg (pe_op op_add (pe_ix (ixl K) (pv 3) (pe_op op_add (pv 4) (pv 6)) (fun _ _ => rfl)) (pe_op op_mul (pv 5) (pv 7))) (pg_sub (pv 3) (pe_op op_add (pv 4) (pv 6)) set_list))))) pss_nil)))
      (pss_one (ps_ret (pe_c c__law_trim hr (by decide) rfl (pa_cons (pv 0) (pa_cons (pv 3) pa_nil)))))))), run_def (N := nm__law_mul) (fun ds d p => ?_) vs H Q E h⟩)
  · rintro ds d ⟨_, _, _, rfl, _⟩; rfl
  ·
    obtain ⟨p, a, b, rfl, hp, ha, hb, sa, rfl⟩ := p
    have hLM : LM = 1000000 := rfl
    show StD K _ [.val (.int p), .val (inD a), .val (inD b), .un, .un, .un, .un, .un] _
    refine st_seq (st_setN ((en_repT (x := (0 : Int)) (enc := D.int) (n := max ((a.length : Int) + b.length - 1) 0) (by omega) (ev_pub (en_lst1 ev_int)) (ev_max (ev_sub (ev_add (ev_lenL (ev_var rfl).h) (ev_lenL (ev_var rfl).h)) ev_int) ev_int)).cast (es := (List.replicate (a.length + b.length - 1) (0 : Int)).map D.int) (by congr 2; omega))) ?_
    refine st_seq (st_for (S := List Int) (as := enumI a) (Gs := fun l => [.val (.int p), .val (inD a), .val (inD b), .own (l.map D.int), .un, .un, .un, .un]) (step := fun l q => if q.2 = 0 then l else addAt q.1 q.2 b l) (s0 := List.replicate (a.length + b.length - 1) 0) (it_enum (ev_var rfl)) fun pre x post e => ?_) ?_
    · obtain ⟨i, x⟩ := x
      have hx := enumI_mem (mem_mid e)
      have hl : (pre.foldl (fun l q => if q.2 = 0 then l else addAt q.1 q.2 b l) (List.replicate (a.length + b.length - 1) 0)).length = a.length + b.length - 1 := by
        rw [foldl_len _ (fun l q => by split <;> simp [addAt_len])]; simp
      refine ⟨_, _, tg_tup (tgs_cons tg_name (tgs_cons tg_name tgs_nil)) rfl, ?_⟩
      generalize hs : pre.foldl (fun l q => if q.2 = 0 then l else addAt q.1 q.2 b l) (List.replicate (a.length + b.length - 1) 0) = l0 at hl ⊢
      refine StD.lp (st_if (eb_test (ev_neI (ev_var rfl) ev_int)) (fun z => ?_) fun z => ?_)
      · have z' : x ≠ 0 := by simpa using z
        rw [if_neg z']
        refine StD.weak (st_for (S := List Int) (as := enumI b) (Gs := fun l => [.val (.int p), .val (inD a), .val (inD b), .own (l.map D.int), .val (.int i), .val (.int x), .un, .un]) (step := fun l q => l.set (i + q.1).toNat (cf l (i + q.1).toNat + x * q.2)) (s0 := l0) (it_enum (ev_var rfl)) fun pre2 y post2 e2 => ?_) (.eq (.eq (.eq (.eq (.un (.un (.eq (.eq .nil))))))))
        obtain ⟨j, y⟩ := y
        have hy := enumI_mem (mem_mid e2)
        have hl2 : (pre2.foldl (fun l q => l.set (i + q.1).toNat (cf l (i + q.1).toNat + x * q.2)) l0).length = a.length + b.length - 1 := by
          rw [foldl_len _ (fun _ _ => by simp), hl]
        generalize hs2 : pre2.foldl (fun l q => l.set (i + q.1).toNat (cf l (i + q.1).toNat + x * q.2)) l0 = l1 at hl2 ⊢
        refine ⟨_, _, tg_tup (tgs_cons tg_name (tgs_cons tg_name tgs_nil)) rfl, ?_⟩
        have sx := sa x hx.2.2
        exact StD.lp (StD.weak (st_setL (l := l1) (i := 3) rfl (by omega) (by omega) (ev_add (ev_ixIO (l := l1) rfl (by omega) (by omega) (ev_add (ev_var rfl) (ev_var rfl))) (ev_mulS (.inl sx) (ev_var rfl) (ev_var rfl))) (ev_add (ev_var rfl) (ev_var rfl))) (.eq (.eq (.eq (.eq (.eq (.eq (.un (.un .nil)))))))))
      · have z' : x = 0 := by simpa using z
        rw [if_pos z']
        exact st_nilW (.eq (.eq (.eq (.eq (.un (.un (.eq (.eq .nil))))))))
    exact st_pub (i := 3) rfl (st_ret ((ev_call (ea2 (ev_var rfl) (ev_var rfl)) ⟨p, lmF a b, rfl, hp, by rw [lmF_len]; omega, rfl⟩).cast (by rw [lm_eq hp])))
abbrev s__law_power : Stmt := top 79
abbrev nm__law_power : List Str := ["p", "one", "count", "found", "turn"]
theorem sc__law_power : FnScope nm__law_power ["p", "one", "count"] (defScope s__law_power) := ⟨rfl, rfl, rfl, by decide +kernel, rfl, by decide +kernel, by decide +kernel⟩
theorem ok__law_power (fx : Fx K mg) (c__law_mul : Cal P w K mg base 2 "_law_mul" (spD K p__law_mul) []) (F : FunD K "_law_power" "_law_power" (defArgs s__law_power) (defBody s__law_power) (defScope s__law_power) [] [] f fd) : FnOk P w K mg base CX0 3 f fd ["p", "one", "count"] (spD K p__law_power) := by
  refine F.ok sc__law_power (spD_len (n := 3) ?_) (fun cdv A outer s H vs Q E hr h => ⟨_, PSs.nox ((pss_cons (ps_set (i := 3) sc__law_power.nd rfl (by first | exact Or.inl rfl | exact Or.inr rfl) (pe_lst (pa_cons pe_int pa_nil)))
      (pss_cons (ps_for PassesOwn.never rfl (pi_range1 (by rfl) fx.b_range (pa_cons (pv 2) pa_nil)) (pg_name (i := 4) sc__law_power.nd rfl (by first | exact Or.inl rfl | exact Or.inr rfl))
      (pss_one (ps_set (i := 3) sc__law_power.nd rfl (by first | exact Or.inl rfl | exact Or.inr rfl) (pe_c c__law_mul hr (by decide) rfl (pa_cons (pv 0) (pa_cons (pv 3) (pa_cons (pv 1) pa_nil)))))))
      (pss_one (ps_ret (pv 3)))))), run_def (N := nm__law_power) (fun ds d p => ?_) vs H Q E h⟩)
  · rintro ds d ⟨_, _, _, rfl, _⟩; rfl
  ·
    obtain ⟨p, a, n, rfl, hp, hp2, hn, hn2, hna, ha, rfl⟩ := p
    have hLM : LM = 1000000 := rfl
    show StD K _ [.val (.int p), .val (inD a), .val (.int n), .un, .un] _
    refine st_seq (st_set (ev_pub (en_lst1 ev_int))) ?_
    refine st_seq (st_for (S := Nat) (as := rangeI 0 n.toNat) (enc := D.int) (Gs := fun k => [.val (.int p), .val (inD a), .val (.int n), .val (inD (ppow p a k)), .un]) (step := fun k _ => k + 1) (s0 := 0) (it_rng1 (n := n) (by omega) (ev_var rfl)) fun pre x post e => ?_) ?_
    · have hk : pre.foldl (fun (k : Nat) (_ : Int) => k + 1) 0 = pre.length := (foldl_count pre 0).trans (Nat.zero_add _)
      have hpre : pre.length < n.toNat := by
        have := congrArg List.length e
        rw [rangeI_len, List.length_append, List.length_cons] at this
        omega
      rw [hk]
      have hlen := ppow_len (p := p) (a := a) (n := pre.length)
      have h5 : pre.length * a.length ≤ n.toNat * a.length := Nat.mul_le_mul_right _ (by omega)
      refine ⟨_, _, tg_name, StD.lp (StD.weak (st_set (i := 3) (ev_call (ea3 (ev_var rfl) (ev_var rfl) (ev_var rfl)) ⟨_, _, _, rfl, hp, by omega, by omega, ?_, rfl⟩)) (.eq (.eq (.eq (.eq (.un .nil))))))⟩
      exact ppow_sm hp hp2
    rw [foldl_count, rangeI_len, Nat.zero_add]
    exact st_ret (ev_var rfl)
abbrev s__law_back : Stmt := top 80
abbrev nm__law_back : List Str := ["p", "number", "item"]
theorem sc__law_back : FnScope nm__law_back ["p", "number"] (defScope s__law_back) := ⟨rfl, rfl, rfl, by decide +kernel, rfl, by decide +kernel, by decide +kernel⟩
theorem ok__law_back (fx : Fx K mg) (F : FunD K "_law_back" "_law_back" (defArgs s__law_back) (defBody s__law_back) (defScope s__law_back) [] [] f fd) : FnOk P w K mg base CX0 1 f fd ["p", "number"] (spD K p__law_back) := by
  refine F.ok sc__law_back (spD_len (n := 2) ?_) (fun cdv A outer s H vs Q E hr h => ⟨_, PSs.nox ((pss_one (ps_ret (pe_ix (ixl K) (pe_lc (own := [("item", 2)]) rfl sc__law_back.nd (pi_range2 (by rfl) fx.b_range (pa_cons pe_int (pa_cons (pv 0) pa_nil))) (blkOk_by (N := nm__law_back) (sc := defScope s__law_back) (by decide +kernel)) (fun _ _ _ _ _ => (pg_name (i := 2) sc__law_back.nd rfl (by first | exact Or.inl rfl | exact Or.inr rfl))) (fun _ _ _ _ _ => (pts_one (pt_cmpR op_eq (pe_op op_mod (pe_callTy call_int1 (by rfl) fx.b_int (by decide +kernel) (pa_cons (pe_op op_mul (pv 2) (pv 1)) pa_nil)) (pv 0)) pe_int (nomark _)))) (fun _ _ _ _ _ => (pv 2))) pe_int (fun _ _ => rfl))))), run_def (N := nm__law_back) (fun ds d p => ?_) vs H Q E h⟩)
  · rintro ds d ⟨_, _, rfl, _⟩; rfl
  ·
    obtain ⟨p, n, rfl, hp, hn, hb, rfl⟩ := p
    have hLM : LM = 1000000 := rfl
    show StD K _ [.val (.int p), .val (.int n), .un] _
    have hne : ((rangeI 1 (p - 1).toNat).filter fun low => decide (low * n % p = 1)) ≠ [] := inv_ne hp hn
    refine st_ret ((ev_ixI (by decide) (by have := List.length_pos_iff.mpr hne; rw [List.map_id'] ; omega) (ev_pub (en_lcF D.int (fun low => decide (low * n % p = 1)) (fun low => low) (by rw [rangeI_len]; have := hp.le; exact LMs (by omega)) (it_rng2 (m := 1) (n := p) (by have := hp.le; have := hp.pos; omega) ev_int (ev_var rfl)) fun pre x post e => ⟨_, _, tg_name, fun _ h => h, eb_test (ev_eqI (ev_mod hp.pos (ev_intc (ev_mulS (.inr hb) (ev_var rfl) (ev_var rfl))) (ev_var rfl)) ev_int), fun _ => ev_var rfl⟩)) ev_int).cast ?_)
    rw [List.map_id']
    unfold pinv
    cases hf : ((rangeI 1 (p - 1).toNat).filter fun low => decide (low * n % p = 1)) with
    | nil => exact absurd hf hne
    | cons x xs => rfl
abbrev s__law_rest : Stmt := top 81
abbrev nm__law_rest : List Str := ["p", "one", "other", "left", "back", "turn", "by"]
theorem sc__law_rest : FnScope nm__law_rest ["p", "one", "other"] (defScope s__law_rest) := ⟨rfl, rfl, rfl, by decide +kernel, rfl, by decide +kernel, by decide +kernel⟩
theorem ok__law_rest (fx : Fx K mg) (c__law_back : Cal P w K mg base 1 "_law_back" (spD K p__law_back) []) (c__law_add : Cal P w K mg base 2 "_law_add" (spD K p__law_add) []) (c__law_scale : Cal P w K mg base 2 "_law_scale" (spD K p__law_scale) []) (c__law_mul : Cal P w K mg base 2 "_law_mul" (spD K p__law_mul) []) (F : FunD K "_law_rest" "_law_rest" (defArgs s__law_rest) (defBody s__law_rest) (defScope s__law_rest) [] [] f fd) : FnOk P w K mg base CX0 3 f fd ["p", "one", "other"] (spD K p__law_rest) := by
  refine F.ok sc__law_rest (spD_len (n := 3) ?_) (fun cdv A outer s H vs Q E hr h => ⟨_, PSs.nox ((pss_cons (ps_par (i := 3) (j := 4) (by rfl) sc__law_rest.nd rfl rfl (by decide) rfl rfl (pa_cons (pe_callTy (lstOf K) (by rfl) fx.b_list (by decide +kernel) (pa_cons (pv 1) pa_nil)) (pa_cons (pe_c c__law_back hr (by decide) rfl (pa_cons (pv 0) (pa_cons (pe_ix (ixl K) (pv 2) (pe_un un_neg pe_int) (fun _ _ => rfl)) pa_nil))) pa_nil)) (by rfl))
      (pss_cons (ps_for PassesOwn.never rfl (pi_range1 (by rfl) fx.b_range (pa_cons (pe_callB (lenS K) (by rfl) fx.b_len (by decide +kernel) (pa_cons (pv 1) pa_nil)) pa_nil)) (pg_name (i := 5) sc__law_rest.nd rfl (by first | exact Or.inl rfl | exact Or.inr rfl))
      (pss_one (ps_if (pt_cmpR op_ge (pe_callB (lenS K) (by rfl) fx.b_len (by decide +kernel) (pa_cons (pv 3) pa_nil)) (pe_callB (lenS K) (by rfl) fx.b_len (by decide +kernel) (pa_cons (pv 2) pa_nil)) (nomark _)) (pss_cons (ps_set (i := 6) sc__law_rest.nd rfl (by first | exact Or.inl rfl | exact Or.inr rfl) (pe_op op_cat (pe_op op_rep (pe_lst (pa_cons pe_int pa_nil)) (pe_op op_sub (pe_callB (lenS K) (by rfl) fx.b_len (by decide +kernel) (pa_cons (pv 3) pa_nil)) (pe_callB (lenS K) (by rfl) fx.b_len (by decide +kernel) (pa_cons (pv 2) pa_nil)))) (pe_lst (pa_cons (pe_op op_mul (pe_ix (ixl K) (pv 3) (pe_un un_neg pe_int) (fun _ _ => rfl)) (pv 4)) pa_nil))))
      (pss_one (ps_set (i := 3) sc__law_rest.nd rfl (by first | exact Or.inl rfl | exact Or.inr rfl) (pe_c c__law_add hr (by decide) rfl (pa_cons (pv 0) (pa_cons (pv 3) (pa_cons (pe_c c__law_scale hr (by decide) rfl (pa_cons (pv 0) (pa_cons (pe_c c__law_mul hr (by decide) rfl (pa_cons (pv 0) (pa_cons (pv 6) (pa_cons (pv 2) pa_nil)))) (pa_cons (pe_un un_neg pe_int) pa_nil)))) pa_nil))))))) pss_nil)))
      (pss_one (ps_ret (pv 3)))))), run_def (N := nm__law_rest) (fun ds d p => ?_) vs H Q E h⟩)
  · rintro ds d ⟨_, _, _, rfl, _⟩; rfl
  ·
    obtain ⟨p, a, b, rfl, ⟨hp, ha, hb, hne, nb, na⟩, rfl⟩ := p
    have hLM : LM = 1000000 := rfl
    have hpp := hp.pos
    have hpl := hp.le
    have hm := nb.lmod hne
    have hlb := nb.lst hne
    obtain ⟨k1, k2, k3⟩ := pinv_mem hp hm
    have hbl := List.length_pos_iff.mpr hne
    show StD K _ [.val (.int p), .val (inD a), .val (inD b), .un, .un, .un, .un] _
    refine st_seq (st_par (c1 := .val (inD a)) (em_v (ev_pub (en_listof (ev_var rfl)))) (em_v (ev_call (ea2 (ev_var rfl) (ev_ixN hne (ev_var rfl) ev_m1)) ⟨p, lastI b, rfl, hp, hm, by omega, rfl⟩)) (fun h => nomatch h) (fun h => nomatch h) (by decide)) ?_
    refine st_seq (st_for (S := List Int) (as := rangeI 0 a.length) (enc := D.int) (Gs := fun l => [.val (.int p), .val (inD a), .val (inD b), .val (inD l), .val (.int (pinv p (lastI b))), .un, .un]) (step := fun l _ => lrStep p (pinv p (lastI b)) b l) (s0 := a) (it_rng1 (n := a.length) (by omega) (ev_lenL (ev_var (i := 1) rfl).h)) fun pre x post e => ⟨_, _, tg_name, ?_⟩) ?_
    · obtain ⟨nl, hl⟩ := lr_inv (p := p) (b := b) (back := pinv p (lastI b)) hpp hne pre a na
      generalize pre.foldl (fun (l : List Int) (_ : Int) => lrStep p (pinv p (lastI b)) b l) a = l at nl hl ⊢
      refine StD.lp (StD.weak (G1 := [.val (.int p), .val (inD a), .val (inD b), .val (inD (lrStep p (pinv p (lastI b)) b l)), .val (.int (pinv p (lastI b))), .un, .un]) (st_if (x := decide (b.length ≤ l.length)) ((eb_test (ev_ge (ev_lenL (ev_var rfl).h) (ev_lenL (ev_var rfl).h))).cast (decide_eq_decide.mpr Int.ofNat_le)) (fun z => ?_) fun z => ?_) (Weak.refl _))
      · have z' : b.length ≤ l.length := by simpa using z
        have hln : l ≠ [] := fun y => by subst y; have z2 : b.length ≤ 0 := z'; omega
        have hll := nl.lst hln
        have hy0 : 0 ≤ lastI l * pinv p (lastI b) := Int.mul_nonneg (by omega) (by omega)
        have hy1 : lastI l * pinv p (lastI b) ≤ 13 * 13 := Int.mul_le_mul (by omega) (by omega) (by omega) (by omega)
        have hby : (lrBy (pinv p (lastI b)) b l).length = l.length - b.length + 1 := by unfold lrBy; simp
        have e1 : lrStep p (pinv p (lastI b)) b l = padd p l (pscl p (pmul p (lrBy (pinv p (lastI b)) b l) b) (-1)) := if_pos z'
        have m1 := pmul_len (p := p) (a := lrBy (pinv p (lastI b)) b l) (b := b)
        have m2 := pscl_len (p := p) (a := pmul p (lrBy (pinv p (lastI b)) b l) b) (n := -1)
        rw [e1]
        refine st_seq (st_set (d := inD (lrBy (pinv p (lastI b)) b l)) (ev_pub ((en_catT (enc := D.int) (as := List.replicate ((l.length : Int) - b.length).toNat 0) (bs := [lastI l * pinv p (lastI b)]) (by simp; omega) (ev_pub (en_repT (by omega) (ev_pub (en_lst1 ev_int)) (ev_sub (ev_lenL (ev_var rfl).h) (ev_lenL (ev_var rfl).h)))) (ev_pub (en_lst1 (ev_mulS (.inl (by omega)) (ev_ixN hln (ev_var rfl) ev_m1) (ev_var rfl))))).cast (by unfold lrBy; congr 3; omega)))) ?_
        exact StD.weak (st_set (ev_call (ea3 (ev_var rfl) (ev_var rfl) (ev_call (ea3 (ev_var rfl) (ev_call (ea3 (ev_var rfl) (ev_var rfl) (ev_var rfl)) ⟨p, lrBy (pinv p (lastI b)) b l, b, rfl, hpp, by omega, by omega, lrBy_sm hy0 hy1, rfl⟩) (ev_neg ev_int)) ⟨p, _, -1, rfl, hpp, by omega, by decide, rfl⟩)) ⟨p, l, _, rfl, hpp, by omega, by omega, rfl⟩)) (.eq (.eq (.eq (.eq (.eq (.un (.un .nil)))))))
      · have z' : ¬ b.length ≤ l.length := by simpa using z
        rw [show lrStep p (pinv p (lastI b)) b l = l from if_neg z']
        exact st_nilW (.eq (.eq (.eq (.eq (.eq (.un (.un .nil)))))))
    · rw [lr_eq hp hne nb na]
      exact st_ret (ev_var rfl)
abbrev s__law_common : Stmt := top 82
abbrev nm__law_common : List Str := ["p", "one", "other", "low", "high", "turn"]
theorem sc__law_common : FnScope nm__law_common ["p", "one", "other"] (defScope s__law_common) := ⟨rfl, rfl, rfl, by decide +kernel, rfl, by decide +kernel, by decide +kernel⟩
theorem ok__law_common (fx : Fx K mg) (c__law_rest : Cal P w K mg base 3 "_law_rest" (spD K p__law_rest) []) (F : FunD K "_law_common" "_law_common" (defArgs s__law_common) (defBody s__law_common) (defScope s__law_common) [] [] f fd) : FnOk P w K mg base CX0 4 f fd ["p", "one", "other"] (spD K p__law_common) := by
  refine F.ok sc__law_common (spD_len (n := 3) ?_) (fun cdv A outer s H vs Q E hr h => ⟨_, PSs.nox ((pss_cons (ps_par (i := 3) (j := 4) (by rfl) sc__law_common.nd rfl rfl (by decide) rfl rfl (pa_cons (pe_callTy (lstOf K) (by rfl) fx.b_list (by decide +kernel) (pa_cons (pv 1) pa_nil)) (pa_cons (pe_callTy (lstOf K) (by rfl) fx.b_list (by decide +kernel) (pa_cons (pv 2) pa_nil)) pa_nil)) (by rfl))
      (pss_cons (ps_for PassesOwn.never rfl (pi_range1 (by rfl) fx.b_range (pa_cons (pe_op op_add (pe_op op_add (pe_callB (lenS K) (by rfl) fx.b_len (by decide +kernel) (pa_cons (pv 1) pa_nil)) (pe_callB (lenS K) (by rfl) fx.b_len (by decide +kernel) (pa_cons (pv 2) pa_nil))) pe_int) pa_nil)) (pg_name (i := 5) sc__law_common.nd rfl (by first | exact Or.inl rfl | exact Or.inr rfl))
      (pss_one (ps_if (pt_cmpR (opNe K hr.units) (pv 4) (pe_lst pa_nil) (nomark _)) (pss_one (ps_par (i := 3) (j := 4) (by rfl) sc__law_common.nd rfl rfl (by decide) rfl rfl (pa_cons (pv 4) (pa_cons (pe_c c__law_rest hr (by decide) rfl (pa_cons (pv 0) (pa_cons (pv 3) (pa_cons (pv 4) pa_nil)))) pa_nil)) (by rfl))) pss_nil)))
      (pss_one (ps_ret (pv 3)))))), run_def (N := nm__law_common) (fun ds d p => ?_) vs H Q E h⟩)
  · rintro ds d ⟨_, _, _, rfl, _⟩; rfl
  ·
    obtain ⟨p, a, b, rfl, ⟨hp, ha, hb, na, nb⟩, rfl⟩ := p
    have hLM : LM = 1000000 := rfl
    show StD K _ [.val (.int p), .val (inD a), .val (inD b), .un, .un, .un] _
    refine st_seq (st_par (c1 := .val (inD a)) (c2 := .val (inD b)) (em_v (ev_pub (en_listof (ev_var rfl)))) (em_v (ev_pub (en_listof (ev_var rfl)))) (fun h => nomatch h) (fun h => nomatch h) (by decide)) ?_
    refine st_seq (st_for (S := List Int × List Int) (as := rangeI 0 (a.length + b.length + 1)) (enc := D.int) (Gs := fun s => [.val (.int p), .val (inD a), .val (inD b), .val (inD s.1), .val (inD s.2), .un]) (step := fun s _ => lcStep p s) (s0 := (a, b)) (it_rng1 (n := (a.length : Int) + b.length + 1) (by omega) (ev_add (ev_add (ev_lenL (ev_var (i := 1) rfl).h) (ev_lenL (ev_var (i := 2) rfl).h)) ev_int)) fun pre x post e => ⟨_, _, tg_name, ?_⟩) ?_
    · obtain ⟨n1, n2, h1, h2⟩ := lc_inv hp 200000 pre (a, b) na nb ha hb
      generalize pre.foldl (fun (s : List Int × List Int) (_ : Int) => lcStep p s) (a, b) = s at n1 n2 h1 h2 ⊢
      obtain ⟨l, q⟩ := s
      simp only at n1 n2 h1 h2
      refine StD.lp (StD.weak (G1 := [.val (.int p), .val (inD a), .val (inD b), .val (inD (lcStep p (l, q)).1), .val (inD (lcStep p (l, q)).2), .val (.int x)]) (st_if (eb_test (ev_ne0 (ev_var rfl).h)) (fun z => ?_) fun z => ?_) (.eq (.eq (.eq (.eq (.eq (.un .nil)))))))
      · have z' : q ≠ [] := by simpa using z
        rw [show lcStep p (l, q) = (q, prem p l q) from if_neg z']
        exact st_par (c1 := .val (inD q)) (em_v (ev_var rfl)) (em_v (ev_call (ea3 (ev_var rfl) (ev_var rfl) (ev_var rfl)) ⟨p, l, q, rfl, ⟨hp, h1, h2, z', n2, n1⟩, rfl⟩)) (fun h => nomatch h) (fun h => nomatch h) (by decide)
      · have z' : q = [] := by simpa using z
        rw [show lcStep p (l, q) = (l, q) from if_pos z']
        exact st_nil
    · exact st_ret (ev_var rfl)
abbrev s__law_fall : Stmt := top 83
abbrev nm__law_fall : List Str := ["p", "one", "at", "number"]
theorem sc__law_fall : FnScope nm__law_fall ["p", "one"] (defScope s__law_fall) := ⟨rfl, rfl, rfl, by decide +kernel, rfl, by decide +kernel, by decide +kernel⟩
theorem ok__law_fall (fx : Fx K mg) (c__law_trim : Cal P w K mg base 1 "_law_trim" (spD K p__law_trim) []) (F : FunD K "_law_fall" "_law_fall" (defArgs s__law_fall) (defBody s__law_fall) (defScope s__law_fall) [] [] f fd) : FnOk P w K mg base CX0 2 f fd ["p", "one"] (spD K p__law_fall) := by
  refine F.ok sc__law_fall (spD_len (n := 2) ?_) (fun cdv A outer s H vs Q E hr h => ⟨_, PSs.nox ((pss_one (ps_ret (pe_c c__law_trim hr (by decide) rfl (pa_cons (pv 0) (pa_cons (pe_slice (sll K) (pe_lc (own := [("at", 2), ("number", 3)]) rfl sc__law_fall.nd (pien K (by rfl) fx.b_enumerate (pa_cons (pv 1) pa_nil)) (blkOk_by (N := nm__law_fall) (sc := defScope s__law_fall) (by decide +kernel)) (fun _ _ _ _ _ => (pgt (n := 2) K rfl (pgs_cons (pg_name (i := 2) sc__law_fall.nd rfl (by first | exact Or.inl rfl | exact Or.inr rfl)) (pgs_cons (pg_name (i := 3) sc__law_fall.nd rfl (by first | exact Or.inl rfl | exact Or.inr rfl)) pgs_nil)))) (fun _ _ _ _ _ => pts_nil) (fun _ _ _ _ _ => (pe_op op_mul (pv 2) (pv 3)))) (po_some pe_int) po_none) pa_nil)))))), run_def (N := nm__law_fall) (fun ds d p => ?_) vs H Q E h⟩)
  · rintro ds d ⟨_, _, rfl, _⟩; rfl
  ·
    obtain ⟨p, a, rfl, hp, ha, rfl⟩ := p
    have hLM : LM = 1000000 := rfl
    show StD K _ [.val (.int p), .val (inD a), .un, .un] _
    refine st_ret (ev_call (ea2 (ev_var rfl) (ev_pub ((en_slice (ev_pub (en_lcT D.int (fun q : Int × Int => q.1 * q.2) (by rw [enumI_len]; exact LMs (by omega)) (it_enum (ev_var rfl)) fun pre x post e => ⟨_, _, tg_tup (tgs_cons tg_name (tgs_cons tg_name tgs_nil)) rfl, fun _ h => h, ev_mulS (.inl (by have := enumI_mem (mem_mid e); omega)) (ev_var rfl) (ev_var rfl)⟩)) (eo_some ev_int) eo_no).cast (cut_tail _)))) ⟨_, _, rfl, hp, by rw [List.length_tail, List.length_map, enumI_len]; omega, rfl⟩)
abbrev s__law_of : Stmt := top 86
abbrev nm__law_of : List Str := ["told"]
theorem sc__law_of : FnScope nm__law_of ["told"] (defScope s__law_of) := ⟨rfl, rfl, rfl, by decide +kernel, rfl, by decide +kernel, by decide +kernel⟩
theorem ok__law_of (fx : Fx K mg) (m_Curve : Mak P w K mg base 7 "Curve" (He.ga K "Curve") (spI K (He.ga K "Curve") (p_Curve___init__ K)) []) (F : FunD K "_law_of" "_law_of" (defArgs s__law_of) (defBody s__law_of) (defScope s__law_of) [] [] f fd) : FnOk P w K mg base CX0 9 f fd ["told"] (spD K (p__law_of K)) := by
  refine F.ok sc__law_of (spD_len (n := 1) ?_) (fun cdv A outer s H vs Q E hr h => ⟨_, PSs.nox ((pss_one (ps_ret (pe_mk m_Curve hr (by decide) rfl (pa_cons (pe_ix (ixt K) (pv 0) pe_int (fun _ _ => rfl)) (pa_cons (pe_callTy (lstOf K) (by rfl) fx.b_list (by decide +kernel) (pa_cons (pe_ix (ixt K) (pv 0) pe_int (fun _ _ => rfl)) pa_nil)) pa_nil)))))), run_def (N := nm__law_of) (fun ds d p => ?_) vs H Q E h⟩)
  · rintro ds d ⟨_, rfl, _⟩; rfl
  ·
    obtain ⟨c, rfl, cv, rfl⟩ := p
    show StD K _ [.val (toldD c)] _
    exact st_ret (ev_make (ea2 (ev_tix0 (ev_var rfl)) (ev_pub (en_listof (ev_tix1 (ev_var rfl))))) ⟨c.1, c.2, rfl, cv, rfl⟩)
abbrev s__law_made : Stmt := top 88
abbrev nm__law_made : List Str := ["told", "one"]
theorem sc__law_made : FnScope nm__law_made ["told", "one"] (defScope s__law_made) := ⟨rfl, rfl, rfl, by decide +kernel, rfl, by decide +kernel, by decide +kernel⟩
theorem ok__law_made (fx : Fx K mg) (c__law_of : Cal P w K mg base 9 "_law_of" (spD K (p__law_of K)) []) (m_Function : Mak P w K mg base 7 "Function" (He.ga K "Function") (spI K (He.ga K "Function") (p_Function___init__ K)) []) (F : FunD K "_law_made" "_law_made" (defArgs s__law_made) (defBody s__law_made) (defScope s__law_made) [] [] f fd) : FnOk P w K mg base CX0 10 f fd ["told", "one"] (spD K (p__law_made K)) := by
  refine F.ok sc__law_made (spD_len (n := 2) ?_) (fun cdv A outer s H vs Q E hr h => ⟨_, PSs.nox ((pss_one (ps_ret (pe_mk m_Function hr (by decide) rfl (pa_cons (pe_c c__law_of hr (by decide) rfl (pa_cons (pv 0) pa_nil)) (pa_cons (pe_callTy (lstOf K) (by rfl) fx.b_list (by decide +kernel) (pa_cons (pe_ix (ixt K) (pv 1) pe_int (fun _ _ => rfl)) pa_nil)) (pa_cons (pe_callTy (lstOf K) (by rfl) fx.b_list (by decide +kernel) (pa_cons (pe_ix (ixt K) (pv 1) pe_int (fun _ _ => rfl)) pa_nil)) (pa_cons (pe_callTy (lstOf K) (by rfl) fx.b_list (by decide +kernel) (pa_cons (pe_ix (ixt K) (pv 1) pe_int (fun _ _ => rfl)) pa_nil)) pa_nil)))))))), run_def (N := nm__law_made) (fun ds d p => ?_) vs H Q E h⟩)
  · rintro ds d ⟨_, _, rfl, _⟩; rfl
  ·
    obtain ⟨c, T, rfl, ⟨cv, hT⟩, rfl⟩ := p
    show StD K _ [.val (toldD c), .val (triD T)] _
    exact st_ret (ev_make (ea4 (ev_call (ea1 (ev_var rfl)) ⟨c, rfl, cv, rfl⟩) (ev_pub (en_listof (ev_tix0 (ev_var rfl)))) (ev_pub (en_listof (ev_tix1 (ev_var rfl)))) (ev_pub (en_listof (ev_tix2 (ev_var rfl))))) ⟨c, T.1, T.2.1, T.2.2, rfl, ⟨cv, hT.n1, hT.n2, hT.n3, hT.ne, hT.sz.1, hT.sz.2.1, hT.sz.2.2⟩, rfl⟩)
abbrev s__law_seen : Stmt := top 89
abbrev nm__law_seen : List Str := ["function"]
theorem sc__law_seen : FnScope nm__law_seen ["function"] (defScope s__law_seen) := ⟨rfl, rfl, rfl, by decide +kernel, rfl, by decide +kernel, by decide +kernel⟩
theorem ok__law_seen (fx : Fx K mg) (m_Function_top : Met P w K mg base 1 (He.ga K "Function") "top" (spD K (p_Function_top K)) []) (m_Function_side : Met P w K mg base 1 (He.ga K "Function") "side" (spD K (p_Function_side K)) []) (m_Function_bottom : Met P w K mg base 1 (He.ga K "Function") "bottom" (spD K (p_Function_bottom K)) []) (F : FunD K "_law_seen" "_law_seen" (defArgs s__law_seen) (defBody s__law_seen) (defScope s__law_seen) [] [] f fd) : FnOk P w K mg base CX0 2 f fd ["function"] (spD K (p__law_seen K)) := by
  refine F.ok sc__law_seen (spD_len (n := 1) ?_) (fun cdv A outer s H vs Q E hr h => ⟨_, PSs.nox ((pss_one (ps_ret (pe_tup (pa_cons (pe_mt0 m_Function_top hr (by decide) (pv 0)) (pa_cons (pe_mt0 m_Function_side hr (by decide) (pv 0)) (pa_cons (pe_mt0 m_Function_bottom hr (by decide) (pv 0)) pa_nil))))))), run_def (N := nm__law_seen) (fun ds d p => ?_) vs H Q E h⟩)
  · rintro ds d ⟨_, _, rfl, _⟩; rfl
  ·
    obtain ⟨c, T, rfl, _, rfl⟩ := p
    show StD K _ [.val (fnD K c T)] _
    exact st_ret (ev_tup (ea3 (ev_meth (C := He.ga K "Function") (by decide +kernel) (ev_var rfl) ea_nil ⟨c, T, rfl, trivial, rfl⟩) (ev_meth (C := He.ga K "Function") (by decide +kernel) (ev_var rfl) ea_nil ⟨c, T, rfl, trivial, rfl⟩) (ev_meth (C := He.ga K "Function") (by decide +kernel) (ev_var rfl) ea_nil ⟨c, T, rfl, trivial, rfl⟩)) (by show 3 ≤ sizeLine; decide))
abbrev s__law_nought : Stmt := top 90
abbrev nm__law_nought : List Str := ["one"]
theorem sc__law_nought : FnScope nm__law_nought ["one"] (defScope s__law_nought) := ⟨rfl, rfl, rfl, by decide +kernel, rfl, by decide +kernel, by decide +kernel⟩
theorem ok__law_nought (fx : Fx K mg) (F : FunD K "_law_nought" "_law_nought" (defArgs s__law_nought) (defBody s__law_nought) (defScope s__law_nought) [] [] f fd) : FnOk P w K mg base CX0 1 f fd ["one"] (spD K p__law_nought) := by
  refine F.ok sc__law_nought (spD_len (n := 1) ?_) (fun cdv A outer s H vs Q E hr h => ⟨_, PSs.nox ((pss_one (ps_ret (pe_and (pe_cmpR (opEq K hr.units) (pe_ix (ixt K) (pv 0) pe_int (fun _ _ => rfl)) (pe_lst pa_nil) (nomark _)) (pe_one (pe_cmpR (opEq K hr.units) (pe_ix (ixt K) (pv 0) pe_int (fun _ _ => rfl)) (pe_lst pa_nil) (nomark _))))))), run_def (N := nm__law_nought) (fun ds d p => ?_) vs H Q E h⟩)
  · rintro ds d ⟨_, rfl, _⟩; rfl
  ·
    obtain ⟨T, rfl, _, rfl⟩ := p
    show StD K _ [.val (triD T)] _
    exact st_ret ((ev_andV (ev_eq0 (ev_tix0 (ev_var rfl)).h) fun _ => ev_eq0 (ev_tix1 (ev_var rfl)).h).cast (by congr 1; rw [Bool.eq_iff_iff, Bool.and_eq_true, decide_eq_true_eq, decide_eq_true_eq, decide_eq_true_iff]; exact Iff.rfl))
abbrev s__law_same : Stmt := top 91
abbrev nm__law_same : List Str := ["told", "one", "other", "p", "at"]
theorem sc__law_same : FnScope nm__law_same ["told", "one", "other"] (defScope s__law_same) := ⟨rfl, rfl, rfl, by decide +kernel, rfl, by decide +kernel, by decide +kernel⟩
theorem ok__law_same (fx : Fx K mg) (c__law_mul : Cal P w K mg base 2 "_law_mul" (spD K p__law_mul) []) (F : FunD K "_law_same" "_law_same" (defArgs s__law_same) (defBody s__law_same) (defScope s__law_same) [] [] f fd) : FnOk P w K mg base CX0 3 f fd ["told", "one", "other"] (spD K p__law_same) := by
  refine F.ok sc__law_same (spD_len (n := 3) ?_) (fun cdv A outer s H vs Q E hr h => ⟨_, PSs.nox ((pss_cons (ps_set (i := 3) sc__law_same.nd rfl (by first | exact Or.inl rfl | exact Or.inr rfl) (pe_ix (ixt K) (pv 0) pe_int (fun _ _ => rfl)))
      (pss_one (ps_ret (pe_cmpR (opEq K hr.units) (pe_lc (own := [("at", 4)]) rfl sc__law_same.nd (pi_range1 (by rfl) fx.b_range (pa_cons pe_int pa_nil)) (blkOk_by (N := nm__law_same) (sc := defScope s__law_same) (by decide +kernel)) (fun _ _ _ _ _ => (pg_name (i := 4) sc__law_same.nd rfl (by first | exact Or.inl rfl | exact Or.inr rfl))) (fun _ _ _ _ _ => (pts_one (pt_cmpR (opNe K hr.units) (pe_c c__law_mul hr (by decide) rfl (pa_cons (pv 3) (pa_cons (pe_ix (ixt K) (pv 1) (pv 4) (fun _ _ => rfl)) (pa_cons (pe_ix (ixt K) (pv 2) pe_int (fun _ _ => rfl)) pa_nil)))) (pe_c c__law_mul hr (by decide) rfl (pa_cons (pv 3) (pa_cons (pe_ix (ixt K) (pv 2) (pv 4) (fun _ _ => rfl)) (pa_cons (pe_ix (ixt K) (pv 1) pe_int (fun _ _ => rfl)) pa_nil)))) (nomark _)))) (fun _ _ _ _ _ => (pv 4))) (pe_lst pa_nil) (nomark _)))))), run_def (N := nm__law_same) (fun ds d p => ?_) vs H Q E h⟩)
  · rintro ds d ⟨_, _, _, rfl, _⟩; rfl
  ·
    obtain ⟨c, T, U, rfl, ⟨hp, n1, n2, m1, m2, z1, z2, e1, e2⟩, rfl⟩ := p
    have hLM : LM = 1000000 := rfl
    have hpp := hp.pos
    have hpl := hp.le
    show StD K _ [.val (toldD c), .val (triD T), .val (triD U), .un, .un] _
    refine st_seq (st_set (ev_tix0 (a := .int c.1) (ev_var (i := 0) rfl))) ?_
    show StD K _ [.val (toldD c), .val (triD T), .val (triD U), .val (.int c.1), .un] _
    refine st_ret ((ev_eq0 (l := ((rangeI 0 2).filter fun _ => false).map fun x => x) (ev_pub (en_lcF D.int (fun _ => false) (fun x => x) (by show 2 ≤ sizeLine; decide) (it_rng1 (n := 2) (by decide) ev_int) fun pre x post e => ⟨_, _, tg_name, fun _ h => h, ?_, fun h => nomatch h⟩)).h).cast rfl)
    have hx := rangeI_mem (mem_mid e)
    have hx' : x = 0 ∨ x = 1 := by omega
    rcases hx' with rfl | rfl
    · exact (eb_test (ev_neL (a := pmul c.1 T.1 U.2.2) (b := pmul c.1 U.1 T.2.2) like_ints (by decide) (ev_call (ea3 (ev_var rfl) (ev_ixT (d := inD T.1) rfl (ev_var (i := 1) rfl) (ev_var rfl)) (ev_tix2 (ev_var (i := 2) rfl))) ⟨c.1, T.1, U.2.2, rfl, hpp, by omega, by omega, n1.sm hpl, rfl⟩).h (ev_call (ea3 (ev_var rfl) (ev_ixT (d := inD U.1) rfl (ev_var (i := 2) rfl) (ev_var rfl)) (ev_tix2 (ev_var (i := 1) rfl))) ⟨c.1, U.1, T.2.2, rfl, hpp, by omega, by omega, m1.sm hpl, rfl⟩).h)).cast (by rw [e1]; simp)
    · exact (eb_test (ev_neL (a := pmul c.1 T.2.1 U.2.2) (b := pmul c.1 U.2.1 T.2.2) like_ints (by decide) (ev_call (ea3 (ev_var rfl) (ev_ixT (d := inD T.2.1) rfl (ev_var (i := 1) rfl) (ev_var rfl)) (ev_tix2 (ev_var (i := 2) rfl))) ⟨c.1, T.2.1, U.2.2, rfl, hpp, by omega, by omega, n2.sm hpl, rfl⟩).h (ev_call (ea3 (ev_var rfl) (ev_ixT (d := inD U.2.1) rfl (ev_var (i := 2) rfl) (ev_var rfl)) (ev_tix2 (ev_var (i := 1) rfl))) ⟨c.1, U.2.1, T.2.2, rfl, hpp, by omega, by omega, m2.sm hpl, rfl⟩).h)).cast (by rw [e2]; simp)
abbrev s__law_least : Stmt := top 92
abbrev nm__law_least : List Str := ["told", "one", "p", "common", "found", "back", "part"]
theorem sc__law_least : FnScope nm__law_least ["told", "one"] (defScope s__law_least) := ⟨rfl, rfl, rfl, by decide +kernel, rfl, by decide +kernel, by decide +kernel⟩
theorem ok__law_least (fx : Fx K mg) (c__law_common : Cal P w K mg base 4 "_law_common" (spD K p__law_common) []) (c__law_back : Cal P w K mg base 1 "_law_back" (spD K p__law_back) []) (c__law_whole : Cal P w K mg base 3 "_law_whole" (spD K p__law_whole) []) (c__law_scale : Cal P w K mg base 2 "_law_scale" (spD K p__law_scale) []) (F : FunD K "_law_least" "_law_least" (defArgs s__law_least) (defBody s__law_least) (defScope s__law_least) [] [] f fd) : FnOk P w K mg base CX0 5 f fd ["told", "one"] (spD K p__law_least) := by
  refine F.ok sc__law_least (spD_len (n := 2) ?_) (fun cdv A outer s H vs Q E hr h => ⟨_, PSs.nox ((pss_cons (ps_set (i := 2) sc__law_least.nd rfl (by first | exact Or.inl rfl | exact Or.inr rfl) (pe_ix (ixt K) (pv 0) pe_int (fun _ _ => rfl)))
      (pss_cons (ps_set (i := 3) sc__law_least.nd rfl (by first | exact Or.inl rfl | exact Or.inr rfl) (pe_c c__law_common hr (by decide) rfl (pa_cons (pv 2) (pa_cons (pe_c c__law_common hr (by decide) rfl (pa_cons (pv 2) (pa_cons (pe_ix (ixt K) (pv 1) pe_int (fun _ _ => rfl)) (pa_cons (pe_ix (ixt K) (pv 1) pe_int (fun _ _ => rfl)) pa_nil)))) (pa_cons (pe_ix (ixt K) (pv 1) pe_int (fun _ _ => rfl)) pa_nil)))))
      (pss_cons (ps_setLc (i := 4) (own := [("part", 6)]) rfl sc__law_least.nd rfl rfl (sw_true rfl rfl rfl (by decide +kernel)) (pit K (pv 1)) (blkOk_by (N := nm__law_least) (sc := defScope s__law_least) (by decide +kernel)) (fun _ _ _ _ _ => (pg_name (i := 6) sc__law_least.nd rfl (by first | exact Or.inl rfl | exact Or.inr rfl))) (fun _ _ _ _ _ => pts_nil) (fun _ _ _ _ _ => (pe_c c__law_whole hr (by decide) rfl (pa_cons (pv 2) (pa_cons (pv 6) (pa_cons (pv 3) pa_nil))))))
      (pss_cons (ps_set (i := 5) sc__law_least.nd rfl (by first | exact Or.inl rfl | exact Or.inr rfl) (pe_c c__law_back hr (by decide) rfl (pa_cons (pv 2) (pa_cons (pe_ix (ixl K) (pe_ix (ixl K) (pv 4) pe_int (fun _ _ => rfl)) (pe_un un_neg pe_int) (fun _ _ => rfl)) pa_nil))))
      (pss_one (ps_ret (pe_tup (pa_cons (pe_c c__law_scale hr (by decide) rfl (pa_cons (pv 2) (pa_cons (pe_ix (ixl K) (pv 4) pe_int (fun _ _ => rfl)) (pa_cons (pv 5) pa_nil)))) (pa_cons (pe_c c__law_scale hr (by decide) rfl (pa_cons (pv 2) (pa_cons (pe_ix (ixl K) (pv 4) pe_int (fun _ _ => rfl)) (pa_cons (pv 5) pa_nil)))) (pa_cons (pe_c c__law_scale hr (by decide) rfl (pa_cons (pv 2) (pa_cons (pe_ix (ixl K) (pv 4) pe_int (fun _ _ => rfl)) (pa_cons (pv 5) pa_nil)))) pa_nil))))))))))), run_def (N := nm__law_least) (fun ds d p => ?_) vs H Q E h⟩)
  · rintro ds d ⟨_, _, rfl, _⟩; rfl
  ·
    obtain ⟨c, T, rfl, ⟨hp, hT⟩, rfl⟩ := p
    have hLM : LM = 1000000 := rfl
    have hpp := hp.pos
    have hpl := hp.le
    have a1 := hT.sz
    have g := lcT_ok hp hT.n1 hT.n2 hT.n3 hT.ne
    have g1 := lc_ok hp hT.n3 hT.n1
    have k1 := lc_len hp hT.n3 hT.n1
    have k2 := lc_len hp g1.nr hT.n2
    have q3 := quo_ne hp hT.n3 g.nr g.ne g.d3 hT.ne
    have nq : Nrm c.1 (pquo c.1 T.2.2 (lcT c.1 T.1 T.2.1 T.2.2)) := pquo_nrm hpp
    have hm := nq.lmod q3
    have hlb := nq.lst q3
    obtain ⟨k3, k4, _⟩ := pinv_mem hp hm
    have ql1 := pquo_len (p := c.1) (a := T.1) (b := lcT c.1 T.1 T.2.1 T.2.2)
    have ql2 := pquo_len (p := c.1) (a := T.2.1) (b := lcT c.1 T.1 T.2.1 T.2.2)
    have ql3 := pquo_len (p := c.1) (a := T.2.2) (b := lcT c.1 T.1 T.2.1 T.2.2)
    have hgl : (lcT c.1 T.1 T.2.1 T.2.2).length ≤ 200000 := by show (lcF _ _ _).length ≤ _; omega
    have eL := leastG_eq hp hT.n1 hT.n2 hT.n3 hT.ne g
    show StD K _ [.val (toldD c), .val (triD T), .un, .un, .un, .un, .un] _
    refine st_seq (st_set (ev_tix0 (a := .int c.1) (ev_var (i := 0) rfl))) ?_
    refine st_seq (st_set (ev_call (ea3 (ev_var rfl) (ev_call (ea3 (ev_var rfl) (ev_tix2 (ev_var (i := 1) rfl)) (ev_tix0 (ev_var (i := 1) rfl))) ⟨c.1, T.2.2, T.1, rfl, ⟨hp, by omega, by omega, hT.n3, hT.n1⟩, rfl⟩) (ev_tix1 (ev_var (i := 1) rfl))) ⟨c.1, _, T.2.1, rfl, ⟨hp, by omega, by omega, g1.nr, hT.n2⟩, rfl⟩)) ?_
    show StD K _ [.val (toldD c), .val (triD T), .val (.int c.1), .val (inD (lcT c.1 T.1 T.2.1 T.2.2)), .un, .un, .un] _
    rw [← eL]
    unfold leastG
    generalize lcT c.1 T.1 T.2.1 T.2.2 = gg at *
    refine st_seq (st_setN (en_lcT (as := [T.1, T.2.1, T.2.2]) (enc := inD) inD (fun x => pquo c.1 x gg) (by show 3 ≤ sizeLine; decide) (it_tup (ev_var (i := 1) rfl)) fun pre x post e => ⟨_, _, tg_name, fun _ h => h, ev_call (ea3 (ev_var rfl) (ev_var rfl) (ev_var rfl)) ⟨c.1, x, gg, rfl, ⟨hp, ?_⟩, rfl⟩⟩)) ?_
    · have hm := mem_mid e
      simp only [List.mem_cons, List.not_mem_nil, or_false] at hm
      rcases hm with rfl | rfl | rfl
      · exact ⟨by omega, by omega, g.ne, g.nr, hT.n1⟩
      · exact ⟨by omega, by omega, g.ne, g.nr, hT.n2⟩
      · exact ⟨by omega, by omega, g.ne, g.nr, hT.n3⟩
    show StD K _ [.val (toldD c), .val (triD T), .val (.int c.1), .val (inD gg), .own [inD (pquo c.1 T.1 gg), inD (pquo c.1 T.2.1 gg), inD (pquo c.1 T.2.2 gg)], .un, .un] _
    refine st_seq (st_set (ev_call (ea2 (ev_var rfl) (ev_ixN q3 (ev_ixO (d := inD (pquo c.1 T.2.2 gg)) rfl rfl ev_int) ev_m1)) ⟨c.1, _, rfl, hp, hm, by omega, rfl⟩)) ?_
    generalize pinv c.1 (lastI (pquo c.1 T.2.2 gg)) = iv at *
    exact st_ret (ev_tup (ea3 (ev_call (ea3 (ev_var rfl) (ev_ixO (d := inD (pquo c.1 T.1 gg)) rfl rfl ev_int) (ev_var rfl)) ⟨c.1, _, iv, rfl, hpp, by omega, by omega, rfl⟩) (ev_call (ea3 (ev_var rfl) (ev_ixO (d := inD (pquo c.1 T.2.1 gg)) rfl rfl ev_int) (ev_var rfl)) ⟨c.1, _, iv, rfl, hpp, by omega, by omega, rfl⟩) (ev_call (ea3 (ev_var rfl) (ev_ixO (d := inD (pquo c.1 T.2.2 gg)) rfl rfl ev_int) (ev_var rfl)) ⟨c.1, _, iv, rfl, hpp, by omega, by omega, rfl⟩)) (by show 3 ≤ sizeLine; decide))
abbrev s__law_whole : Stmt := top 93
abbrev nm__law_whole : List Str := ["p", "one", "other", "left", "back", "found", "turn", "by"]
theorem sc__law_whole : FnScope nm__law_whole ["p", "one", "other"] (defScope s__law_whole) := ⟨rfl, rfl, rfl, by decide +kernel, rfl, by decide +kernel, by decide +kernel⟩
theorem ok__law_whole (fx : Fx K mg) (c__law_back : Cal P w K mg base 1 "_law_back" (spD K p__law_back) []) (c__law_add : Cal P w K mg base 2 "_law_add" (spD K p__law_add) []) (c__law_scale : Cal P w K mg base 2 "_law_scale" (spD K p__law_scale) []) (c__law_mul : Cal P w K mg base 2 "_law_mul" (spD K p__law_mul) []) (F : FunD K "_law_whole" "_law_whole" (defArgs s__law_whole) (defBody s__law_whole) (defScope s__law_whole) [] [] f fd) : FnOk P w K mg base CX0 3 f fd ["p", "one", "other"] (spD K p__law_whole) := by
  refine F.ok sc__law_whole (spD_len (n := 3) ?_) (fun cdv A outer s H vs Q E hr h => ⟨_, PSs.nox ((pss_cons (ps_par3 (i := 3) (j := 4) (l := 5) (by rfl) sc__law_whole.nd rfl rfl rfl (by decide) (by decide) (by decide) rfl rfl rfl (pa_cons (pe_callTy (lstOf K) (by rfl) fx.b_list (by decide +kernel) (pa_cons (pv 1) pa_nil)) (pa_cons (pe_c c__law_back hr (by decide) rfl (pa_cons (pv 0) (pa_cons (pe_ix (ixl K) (pv 2) (pe_un un_neg pe_int) (fun _ _ => rfl)) pa_nil))) (pa_cons (pe_lst pa_nil) pa_nil))) (by rfl))
      (pss_cons (ps_for PassesOwn.never rfl (pi_range1 (by rfl) fx.b_range (pa_cons (pe_callB (lenS K) (by rfl) fx.b_len (by decide +kernel) (pa_cons (pv 1) pa_nil)) pa_nil)) (pg_name (i := 6) sc__law_whole.nd rfl (by first | exact Or.inl rfl | exact Or.inr rfl))
      (pss_one (ps_if (pt_cmpR op_ge (pe_callB (lenS K) (by rfl) fx.b_len (by decide +kernel) (pa_cons (pv 3) pa_nil)) (pe_callB (lenS K) (by rfl) fx.b_len (by decide +kernel) (pa_cons (pv 2) pa_nil)) (nomark _)) (pss_cons (ps_set (i := 7) sc__law_whole.nd rfl (by first | exact Or.inl rfl | exact Or.inr rfl) (pe_op op_cat (pe_op op_rep (pe_lst (pa_cons pe_int pa_nil)) (pe_op op_sub (pe_callB (lenS K) (by rfl) fx.b_len (by decide +kernel) (pa_cons (pv 3) pa_nil)) (pe_callB (lenS K) (by rfl) fx.b_len (by decide +kernel) (pa_cons (pv 2) pa_nil)))) (pe_lst (pa_cons (pe_op op_mod (pe_callTy call_int1 (by rfl) fx.b_int (by decide +kernel) (pa_cons (pe_op op_mul (pe_ix (ixl K) (pv 3) (pe_un un_neg pe_int) (fun _ _ => rfl)) (pv 4)) pa_nil)) (pv 0)) pa_nil))))
      (pss_cons (ps_set (i := 3) sc__law_whole.nd rfl (by first | exact Or.inl rfl | exact Or.inr rfl) (pe_c c__law_add hr (by decide) rfl (pa_cons (pv 0) (pa_cons (pv 3) (pa_cons (pe_c c__law_scale hr (by decide) rfl (pa_cons (pv 0) (pa_cons (pe_c c__law_mul hr (by decide) rfl (pa_cons (pv 0) (pa_cons (pv 7) (pa_cons (pv 2) pa_nil)))) (pa_cons (pe_un un_neg pe_int) pa_nil)))) pa_nil)))))
      (pss_one (ps_set (i := 5) sc__law_whole.nd rfl (by first | exact Or.inl rfl | exact Or.inr rfl) (pe_c c__law_add hr (by decide) rfl (pa_cons (pv 0) (pa_cons (pv 5) (pa_cons (pv 7) pa_nil)))))))) pss_nil)))
      (pss_one (ps_ret (pv 5)))))), run_def (N := nm__law_whole) (fun ds d p => ?_) vs H Q E h⟩)
  · rintro ds d ⟨_, _, _, rfl, _⟩; rfl
  ·
    obtain ⟨p, a, b, rfl, ⟨hp, ha, hb, hne, nb, na⟩, rfl⟩ := p
    have hLM : LM = 1000000 := rfl
    have hpp := hp.pos
    have hpl := hp.le
    have hm := nb.lmod hne
    have hlb := nb.lst hne
    obtain ⟨k1, k2, k3⟩ := pinv_mem hp hm
    have hbl := List.length_pos_iff.mpr hne
    show StD K _ [.val (.int p), .val (inD a), .val (inD b), .un, .un, .un, .un, .un] _
    refine st_seq (st_par3 (c1 := .val (inD a)) (c3 := .val (inD [])) (em_v (ev_pub (en_listof (ev_var rfl)))) (em_v (ev_call (ea2 (ev_var rfl) (ev_ixN hne (ev_var rfl) ev_m1)) ⟨p, lastI b, rfl, hp, hm, by omega, rfl⟩)) (em_v (ev_pub en_lst0)) (fun h => nomatch h) (fun h => nomatch h) (fun h => nomatch h) (by decide) (by decide) (by decide)) ?_
    refine st_seq (st_for (S := List Int × List Int) (as := rangeI 0 a.length) (enc := D.int) (Gs := fun s => [.val (.int p), .val (inD a), .val (inD b), .val (inD s.1), .val (.int (pinv p (lastI b))), .val (inD s.2), .un, .un]) (step := fun s _ => lwStep p (pinv p (lastI b)) b s) (s0 := (a, [])) (it_rng1 (n := a.length) (by omega) (ev_lenL (ev_var (i := 1) rfl).h)) fun pre x post e => ⟨_, _, tg_name, ?_⟩) ?_
    · obtain ⟨nl, hl, hf⟩ := lw_inv (p := p) (b := b) (back := pinv p (lastI b)) hpp hne 200000 pre (a, []) na ha (by simp)
      generalize pre.foldl (fun (s : List Int × List Int) (_ : Int) => lwStep p (pinv p (lastI b)) b s) (a, []) = s at nl hl hf ⊢
      obtain ⟨l, q⟩ := s
      simp only at nl hl hf
      refine StD.lp (StD.weak (G1 := [.val (.int p), .val (inD a), .val (inD b), .val (inD (lwStep p (pinv p (lastI b)) b (l, q)).1), .val (.int (pinv p (lastI b))), .val (inD (lwStep p (pinv p (lastI b)) b (l, q)).2), .un, .un]) (st_if (x := decide (b.length ≤ l.length)) ((eb_test (ev_ge (ev_lenL (ev_var rfl).h) (ev_lenL (ev_var rfl).h))).cast (decide_eq_decide.mpr Int.ofNat_le)) (fun z => ?_) fun z => ?_) (Weak.refl _))
      · have z' : b.length ≤ l.length := by simpa using z
        have hln : l ≠ [] := fun y => by subst y; have z2 : b.length ≤ 0 := z'; omega
        have hll := nl.lst hln
        have hby : (lwBy p (pinv p (lastI b)) b l).length = l.length - b.length + 1 := by unfold lwBy; simp
        have e1 : lwStep p (pinv p (lastI b)) b (l, q) = (padd p l (pscl p (pmul p (lwBy p (pinv p (lastI b)) b l) b) (-1)), padd p q (lwBy p (pinv p (lastI b)) b l)) := if_pos z'
        have m1 := pmul_len (p := p) (a := lwBy p (pinv p (lastI b)) b l) (b := b)
        have m2 := pscl_len (p := p) (a := pmul p (lwBy p (pinv p (lastI b)) b l) b) (n := -1)
        rw [e1]
        refine st_seq (st_set (d := inD (lwBy p (pinv p (lastI b)) b l)) (ev_pub ((en_catT (enc := D.int) (as := List.replicate ((l.length : Int) - b.length).toNat 0) (bs := [lastI l * pinv p (lastI b) % p]) (by simp; omega) (ev_pub (en_repT (by omega) (ev_pub (en_lst1 ev_int)) (ev_sub (ev_lenL (ev_var rfl).h) (ev_lenL (ev_var rfl).h)))) (ev_pub (en_lst1 (ev_mod hpp (ev_intc (ev_mulS (.inl (by omega)) (ev_ixN hln (ev_var rfl) ev_m1) (ev_var rfl))) (ev_var rfl))))).cast (by unfold lwBy; congr 3; omega)))) ?_
        refine st_seq (st_set (ev_call (ea3 (ev_var rfl) (ev_var rfl) (ev_call (ea3 (ev_var rfl) (ev_call (ea3 (ev_var rfl) (ev_var rfl) (ev_var rfl)) ⟨p, lwBy p (pinv p (lastI b)) b l, b, rfl, hpp, by omega, by omega, lwBy_sm hpp hpl, rfl⟩) (ev_neg ev_int)) ⟨p, _, -1, rfl, hpp, by omega, by decide, rfl⟩)) ⟨p, l, _, rfl, hpp, by omega, by omega, rfl⟩)) ?_
        exact StD.weak (st_set (ev_call (ea3 (ev_var rfl) (ev_var rfl) (ev_var rfl)) ⟨p, q, _, rfl, hpp, by omega, by omega, rfl⟩)) (.eq (.eq (.eq (.eq (.eq (.eq (.un (.un .nil))))))))
      · have z' : ¬ b.length ≤ l.length := by simpa using z
        rw [show lwStep p (pinv p (lastI b)) b (l, q) = (l, q) from if_neg z']
        exact st_nilW (.eq (.eq (.eq (.eq (.eq (.eq (.un (.un .nil))))))))
    · have := lw_eq hp hne nb na
      rw [← this]
      exact st_ret (ev_var rfl)
abbrev s__law_slope : Stmt := top 94
abbrev nm__law_slope : List Str := ["told", "one", "p", "f", "falls", "low", "high", "twice", "side", "part"]
theorem sc__law_slope : FnScope nm__law_slope ["told", "one"] (defScope s__law_slope) := ⟨rfl, rfl, rfl, by decide +kernel, rfl, by decide +kernel, by decide +kernel⟩
theorem ok__law_slope (fx : Fx K mg) (c__law_add : Cal P w K mg base 2 "_law_add" (spD K p__law_add) []) (c__law_scale : Cal P w K mg base 2 "_law_scale" (spD K p__law_scale) []) (c__law_least : Cal P w K mg base 5 "_law_least" (spD K p__law_least) []) (c__law_fall : Cal P w K mg base 2 "_law_fall" (spD K p__law_fall) []) (c__law_mul : Cal P w K mg base 2 "_law_mul" (spD K p__law_mul) []) (F : FunD K "_law_slope" "_law_slope" (defArgs s__law_slope) (defBody s__law_slope) (defScope s__law_slope) [] [] f fd) : FnOk P w K mg base CX0 6 f fd ["told", "one"] (spD K p__law_slope) := by
  refine F.ok sc__law_slope (spD_len (n := 2) ?_) (fun cdv A outer s H vs Q E hr h => ⟨_, PSs.nox ((pss_cons (ps_asg (pv 0) (pgt (n := 2) K rfl (pgs_cons (pg_name (i := 2) sc__law_slope.nd rfl (by first | exact Or.inl rfl | exact Or.inr rfl)) (pgs_cons (pg_name (i := 3) sc__law_slope.nd rfl (by first | exact Or.inl rfl | exact Or.inr rfl)) pgs_nil))))
      (pss_cons (ps_setLc (i := 4) (own := [("part", 9)]) rfl sc__law_slope.nd rfl rfl (sw_true rfl rfl rfl (by decide +kernel)) (pit K (pv 1)) (blkOk_by (N := nm__law_slope) (sc := defScope s__law_slope) (by decide +kernel)) (fun _ _ _ _ _ => (pg_name (i := 9) sc__law_slope.nd rfl (by first | exact Or.inl rfl | exact Or.inr rfl))) (fun _ _ _ _ _ => pts_nil) (fun _ _ _ _ _ => (pe_c c__law_fall hr (by decide) rfl (pa_cons (pv 2) (pa_cons (pv 9) pa_nil)))))
      (pss_cons (ps_set (i := 5) sc__law_slope.nd rfl (by first | exact Or.inl rfl | exact Or.inr rfl) (pe_c c__law_add hr (by decide) rfl (pa_cons (pv 2) (pa_cons (pe_c c__law_mul hr (by decide) rfl (pa_cons (pv 2) (pa_cons (pe_ix (ixl K) (pv 4) pe_int (fun _ _ => rfl)) (pa_cons (pe_ix (ixt K) (pv 1) pe_int (fun _ _ => rfl)) pa_nil)))) (pa_cons (pe_c c__law_scale hr (by decide) rfl (pa_cons (pv 2) (pa_cons (pe_c c__law_mul hr (by decide) rfl (pa_cons (pv 2) (pa_cons (pe_ix (ixt K) (pv 1) pe_int (fun _ _ => rfl)) (pa_cons (pe_ix (ixl K) (pv 4) pe_int (fun _ _ => rfl)) pa_nil)))) (pa_cons (pe_un un_neg pe_int) pa_nil)))) pa_nil)))))
      (pss_cons (ps_set (i := 6) sc__law_slope.nd rfl (by first | exact Or.inl rfl | exact Or.inr rfl) (pe_c c__law_add hr (by decide) rfl (pa_cons (pv 2) (pa_cons (pe_c c__law_mul hr (by decide) rfl (pa_cons (pv 2) (pa_cons (pe_ix (ixl K) (pv 4) pe_int (fun _ _ => rfl)) (pa_cons (pe_ix (ixt K) (pv 1) pe_int (fun _ _ => rfl)) pa_nil)))) (pa_cons (pe_c c__law_scale hr (by decide) rfl (pa_cons (pv 2) (pa_cons (pe_c c__law_mul hr (by decide) rfl (pa_cons (pv 2) (pa_cons (pe_ix (ixt K) (pv 1) pe_int (fun _ _ => rfl)) (pa_cons (pe_ix (ixl K) (pv 4) pe_int (fun _ _ => rfl)) pa_nil)))) (pa_cons (pe_un un_neg pe_int) pa_nil)))) pa_nil)))))
      (pss_cons (ps_set (i := 7) sc__law_slope.nd rfl (by first | exact Or.inl rfl | exact Or.inr rfl) (pe_c c__law_scale hr (by decide) rfl (pa_cons (pv 2) (pa_cons (pv 3) (pa_cons pe_int pa_nil)))))
      (pss_cons (ps_set (i := 8) sc__law_slope.nd rfl (by first | exact Or.inl rfl | exact Or.inr rfl) (pe_c c__law_add hr (by decide) rfl (pa_cons (pv 2) (pa_cons (pe_c c__law_mul hr (by decide) rfl (pa_cons (pv 2) (pa_cons (pv 6) (pa_cons (pv 7) pa_nil)))) (pa_cons (pe_c c__law_mul hr (by decide) rfl (pa_cons (pv 2) (pa_cons (pe_c c__law_mul hr (by decide) rfl (pa_cons (pv 2) (pa_cons (pe_ix (ixt K) (pv 1) pe_int (fun _ _ => rfl)) (pa_cons (pe_ix (ixt K) (pv 1) pe_int (fun _ _ => rfl)) pa_nil)))) (pa_cons (pe_c c__law_fall hr (by decide) rfl (pa_cons (pv 2) (pa_cons (pv 3) pa_nil))) pa_nil)))) pa_nil)))))
      (pss_one (ps_ret (pe_c c__law_least hr (by decide) rfl (pa_cons (pv 0) (pa_cons (pe_tup (pa_cons (pe_c c__law_mul hr (by decide) rfl (pa_cons (pv 2) (pa_cons (pv 5) (pa_cons (pv 7) pa_nil)))) (pa_cons (pv 8) (pa_cons (pe_c c__law_mul hr (by decide) rfl (pa_cons (pv 2) (pa_cons (pe_c c__law_mul hr (by decide) rfl (pa_cons (pv 2) (pa_cons (pe_ix (ixt K) (pv 1) pe_int (fun _ _ => rfl)) (pa_cons (pe_ix (ixt K) (pv 1) pe_int (fun _ _ => rfl)) pa_nil)))) (pa_cons (pv 7) pa_nil)))) pa_nil)))) pa_nil)))))))))))), run_def (N := nm__law_slope) (fun ds d p => ?_) vs H Q E h⟩)
  · rintro ds d ⟨_, _, rfl, _⟩; rfl
  ·
    obtain ⟨c, T, rfl, ⟨cv, hT⟩, rfl⟩ := p
    have hLM : LM = 1000000 := rfl
    have hp := cv.pos
    have hpl := cv.pm.le
    have a1 := hT.sz
    have a3 := cv.len
    have d1 := pder_len (p := c.1) (a := T.1)
    have d2 := pder_len (p := c.1) (a := T.2.1)
    have d3 := pder_len (p := c.1) (a := T.2.2)
    have d4 := pder_len (p := c.1) (a := c.2)
    have tw := pscl_len (p := c.1) (a := c.2) (n := 2)
    have l1 := pmul_len (p := c.1) (a := pder c.1 T.1) (b := T.2.2)
    have l2 := pmul_len (p := c.1) (a := T.1) (b := pder c.1 T.2.2)
    have l3 := pmul_len (p := c.1) (a := pder c.1 T.2.1) (b := T.2.2)
    have l4 := pmul_len (p := c.1) (a := T.2.1) (b := pder c.1 T.2.2)
    have l2' := pscl_len (p := c.1) (a := pmul c.1 T.1 (pder c.1 T.2.2)) (n := -1)
    have l4' := pscl_len (p := c.1) (a := pmul c.1 T.2.1 (pder c.1 T.2.2)) (n := -1)
    have s1 := psub_len (p := c.1) (a := pmul c.1 (pder c.1 T.1) T.2.2) (b := pmul c.1 T.1 (pder c.1 T.2.2))
    have s2 := psub_len (p := c.1) (a := pmul c.1 (pder c.1 T.2.1) T.2.2) (b := pmul c.1 T.2.1 (pder c.1 T.2.2))
    have l5 := pmul_len (p := c.1) (a := T.2.1) (b := T.2.2)
    have l6 := pmul_len (p := c.1) (a := pmul c.1 T.2.1 T.2.2) (b := pder c.1 c.2)
    have l7 := pmul_len (p := c.1) (a := T.2.2) (b := T.2.2)
    have l8 := pmul_len (p := c.1) (a := psub c.1 (pmul c.1 (pder c.1 T.2.1) T.2.2) (pmul c.1 T.2.1 (pder c.1 T.2.2))) (b := pscl c.1 c.2 2)
    have l9 := padd_len (p := c.1) (a := pmul c.1 (psub c.1 (pmul c.1 (pder c.1 T.2.1) T.2.2) (pmul c.1 T.2.1 (pder c.1 T.2.2))) (pscl c.1 c.2 2)) (b := pmul c.1 (pmul c.1 T.2.1 T.2.2) (pder c.1 c.2))
    have l10 := pmul_len (p := c.1) (a := psub c.1 (pmul c.1 (pder c.1 T.1) T.2.2) (pmul c.1 T.1 (pder c.1 T.2.2))) (b := pscl c.1 c.2 2)
    have l11 := pmul_len (p := c.1) (a := pmul c.1 T.2.2 T.2.2) (b := pscl c.1 c.2 2)
    have swap : pmul c.1 (pmul c.1 T.2.1 T.2.2) (pder c.1 c.2) = pmul c.1 (pmul c.1 T.2.1 (pder c.1 c.2)) T.2.2 := ps_inj hp (trim_nrm hp _) (trim_nrm hp _) (by simp only [ps_pmul]; grind)
    unfold fSlope
    rw [← swap]
    show StD K _ [.val (toldD c), .val (triD T), .un, .un, .un, .un, .un, .un, .un, .un] _
    refine st_seq (st_unp2 (a := .int c.1) (b := inD c.2) (ev_var (i := 0) rfl)) ?_
    show StD K _ [.val (toldD c), .val (triD T), .val (.int c.1), .val (inD c.2), .un, .un, .un, .un, .un, .un] _
    refine st_seq (st_setN (en_lcT (as := [T.1, T.2.1, T.2.2]) (enc := inD) inD (fun x => pder c.1 x) (by show 3 ≤ sizeLine; decide) (it_tup (ev_var (i := 1) rfl)) fun pre x post e => ⟨_, _, tg_name, fun _ h => h, ev_call (ea2 (ev_var rfl) (ev_var rfl)) ⟨c.1, x, rfl, hp, ?_, rfl⟩⟩)) ?_
    · have hm := mem_mid e
      simp only [List.mem_cons, List.not_mem_nil, or_false] at hm
      rcases hm with rfl | rfl | rfl <;> omega
    show StD K _ [.val (toldD c), .val (triD T), .val (.int c.1), .val (inD c.2), .own [inD (pder c.1 T.1), inD (pder c.1 T.2.1), inD (pder c.1 T.2.2)], .un, .un, .un, .un, .un] _
    refine st_seq (st_set (d := inD (psub c.1 (pmul c.1 (pder c.1 T.1) T.2.2) (pmul c.1 T.1 (pder c.1 T.2.2)))) ((ev_call (ea3 (ev_var rfl) (ev_call (ea3 (ev_var rfl) (ev_ixO (d := inD (pder c.1 T.1)) rfl rfl ev_int) (ev_tix2 (ev_var (i := 1) rfl))) ⟨c.1, pder c.1 T.1, T.2.2, rfl, hp, by omega, by omega, (trim_nrm hp _).sm hpl, rfl⟩) (ev_call (ea3 (ev_var rfl) (ev_call (ea3 (ev_var rfl) (ev_tix0 (ev_var (i := 1) rfl)) (ev_ixO (d := inD (pder c.1 T.2.2)) rfl rfl ev_int)) ⟨c.1, T.1, pder c.1 T.2.2, rfl, hp, by omega, by omega, hT.ls.n1.sm hpl, rfl⟩) (ev_neg ev_int)) ⟨c.1, _, -1, rfl, hp, by omega, by decide, rfl⟩)) ⟨c.1, _, _, rfl, hp, by omega, by omega, rfl⟩).cast (by rw [pscl_neg]; rfl))) ?_
    refine st_seq (st_set (d := inD (psub c.1 (pmul c.1 (pder c.1 T.2.1) T.2.2) (pmul c.1 T.2.1 (pder c.1 T.2.2)))) ((ev_call (ea3 (ev_var rfl) (ev_call (ea3 (ev_var rfl) (ev_ixO (d := inD (pder c.1 T.2.1)) rfl rfl ev_int) (ev_tix2 (ev_var (i := 1) rfl))) ⟨c.1, pder c.1 T.2.1, T.2.2, rfl, hp, by omega, by omega, (trim_nrm hp _).sm hpl, rfl⟩) (ev_call (ea3 (ev_var rfl) (ev_call (ea3 (ev_var rfl) (ev_tix1 (ev_var (i := 1) rfl)) (ev_ixO (d := inD (pder c.1 T.2.2)) rfl rfl ev_int)) ⟨c.1, T.2.1, pder c.1 T.2.2, rfl, hp, by omega, by omega, hT.ls.n2.sm hpl, rfl⟩) (ev_neg ev_int)) ⟨c.1, _, -1, rfl, hp, by omega, by decide, rfl⟩)) ⟨c.1, _, _, rfl, hp, by omega, by omega, rfl⟩).cast (by rw [pscl_neg]; rfl))) ?_
    refine st_seq (st_set (ev_call (ea3 (ev_var rfl) (ev_var rfl) ev_int) ⟨c.1, c.2, 2, rfl, hp, by omega, by decide, rfl⟩)) ?_
    refine st_seq (st_set (ev_call (ea3 (ev_var rfl) (ev_call (ea3 (ev_var rfl) (ev_var rfl) (ev_var rfl)) ⟨c.1, _, _, rfl, hp, by omega, by omega, (trim_nrm hp _).sm hpl, rfl⟩) (ev_call (ea3 (ev_var rfl) (ev_call (ea3 (ev_var rfl) (ev_tix1 (ev_var (i := 1) rfl)) (ev_tix2 (ev_var (i := 1) rfl))) ⟨c.1, T.2.1, T.2.2, rfl, hp, by omega, by omega, hT.ls.n2.sm hpl, rfl⟩) (ev_call (ea2 (ev_var rfl) (ev_var rfl)) ⟨c.1, c.2, rfl, hp, by omega, rfl⟩)) ⟨c.1, _, _, rfl, hp, by omega, by omega, (trim_nrm hp _).sm hpl, rfl⟩)) ⟨c.1, _, _, rfl, hp, by omega, by omega, rfl⟩)) ?_
    have nA : Nrm c.1 (pmul c.1 (psub c.1 (pmul c.1 (pder c.1 T.1) T.2.2) (pmul c.1 T.1 (pder c.1 T.2.2))) (pscl c.1 c.2 2)) := trim_nrm hp _
    have nB : Nrm c.1 (padd c.1 (pmul c.1 (psub c.1 (pmul c.1 (pder c.1 T.2.1) T.2.2) (pmul c.1 T.2.1 (pder c.1 T.2.2))) (pscl c.1 c.2 2)) (pmul c.1 (pmul c.1 T.2.1 T.2.2) (pder c.1 c.2))) := trim_nrm hp _
    have nC : Nrm c.1 (pmul c.1 (pmul c.1 T.2.2 T.2.2) (pscl c.1 c.2 2)) := trim_nrm hp _
    have eC : pmul c.1 (pmul c.1 T.2.2 T.2.2) (pscl c.1 c.2 2) ≠ [] := pmul_ne cv.pm (trim_nrm hp _) (trim_nrm hp _) (pmul_ne cv.pm hT.ls.n3 hT.ls.n3 hT.ls.ne hT.ls.ne) (twice_ne cv.pm cv.nr cv.ne)
    have nt : Nrm c.1 (psub c.1 (pmul c.1 (pder c.1 T.1) T.2.2) (pmul c.1 T.1 (pder c.1 T.2.2))) := trim_nrm hp _
    have nb : Nrm c.1 (pmul c.1 T.2.2 T.2.2) := trim_nrm hp _
    generalize hB : padd c.1 (pmul c.1 (psub c.1 (pmul c.1 (pder c.1 T.2.1) T.2.2) (pmul c.1 T.2.1 (pder c.1 T.2.2))) (pscl c.1 c.2 2)) (pmul c.1 (pmul c.1 T.2.1 T.2.2) (pder c.1 c.2)) = B at *
    generalize hL : psub c.1 (pmul c.1 (pder c.1 T.1) T.2.2) (pmul c.1 T.1 (pder c.1 T.2.2)) = L at *
    generalize hW : pscl c.1 c.2 2 = W at *
    refine st_ret (ev_call (d := triD (leastT c.1 (pmul c.1 L W) B (pmul c.1 (pmul c.1 T.2.2 T.2.2) W))) (ds := [toldD c, triD (pmul c.1 L W, B, pmul c.1 (pmul c.1 T.2.2 T.2.2) W)]) (ea2 (ev_var (i := 0) rfl) (ev_tup (ds := [inD (pmul c.1 L W), inD B, inD (pmul c.1 (pmul c.1 T.2.2 T.2.2) W)]) (ea3 (ev_call (ea3 (ev_var rfl) (ev_var rfl) (ev_var rfl)) ⟨c.1, L, W, rfl, hp, by omega, by omega, nt.sm hpl, rfl⟩) (ev_var rfl) (ev_call (ea3 (ev_var rfl) (ev_call (ea3 (ev_var rfl) (ev_tix2 (ev_var (i := 1) rfl)) (ev_tix2 (ev_var (i := 1) rfl))) ⟨c.1, T.2.2, T.2.2, rfl, hp, by omega, by omega, hT.ls.n3.sm hpl, rfl⟩) (ev_var rfl)) ⟨c.1, pmul c.1 T.2.2 T.2.2, W, rfl, hp, by omega, by omega, nb.sm hpl, rfl⟩)) (by show 3 ≤ sizeLine; decide))) ⟨c, (pmul c.1 L W, B, pmul c.1 (pmul c.1 T.2.2 T.2.2) W), rfl, ⟨cv.pm, ⟨nA, nB, nC, eC, ⟨Nat.le_trans l10 (by omega), Nat.le_trans l9 (by omega), Nat.le_trans l11 (by omega)⟩⟩⟩, rfl⟩)
abbrev s__law_parts : Stmt := top 95
abbrev nm__law_parts : List Str := ["told", "one", "p", "f", "rest", "low", "high", "below", "found", "first"]
theorem sc__law_parts : FnScope nm__law_parts ["told", "one"] (defScope s__law_parts) := ⟨rfl, rfl, rfl, by decide +kernel, rfl, by decide +kernel, by decide +kernel⟩
theorem ok__law_parts (fx : Fx K mg) (c__law_power : Cal P w K mg base 3 "_law_power" (spD K p__law_power) []) (c__law_mul : Cal P w K mg base 2 "_law_mul" (spD K p__law_mul) []) (c__law_least : Cal P w K mg base 5 "_law_least" (spD K p__law_least) []) (c__law_trim : Cal P w K mg base 1 "_law_trim" (spD K p__law_trim) []) (F : FunD K "_law_parts" "_law_parts" (defArgs s__law_parts) (defBody s__law_parts) (defScope s__law_parts) [] [] f fd) : FnOk P w K mg base CX0 6 f fd ["told", "one"] (spD K p__law_parts) := by
  refine F.ok sc__law_parts (spD_len (n := 2) ?_) (fun cdv A outer s H vs Q E hr h => ⟨_, PSs.nox ((pss_cons (ps_asg (pv 0) (pgt (n := 2) K rfl (pgs_cons (pg_name (i := 2) sc__law_parts.nd rfl (by first | exact Or.inl rfl | exact Or.inr rfl)) (pgs_cons (pg_name (i := 3) sc__law_parts.nd rfl (by first | exact Or.inl rfl | exact Or.inr rfl)) pgs_nil))))
      (pss_cons (ps_set (i := 4) sc__law_parts.nd rfl (by first | exact Or.inl rfl | exact Or.inr rfl) (pe_c c__law_power hr (by decide) rfl (pa_cons (pv 2) (pa_cons (pe_ix (ixt K) (pv 1) pe_int (fun _ _ => rfl)) (pa_cons (pe_op op_sub (pv 2) pe_int) pa_nil)))))
      (pss_cons (ps_set (i := 5) sc__law_parts.nd rfl (by first | exact Or.inl rfl | exact Or.inr rfl) (pe_c c__law_mul hr (by decide) rfl (pa_cons (pv 2) (pa_cons (pe_ix (ixt K) (pv 1) pe_int (fun _ _ => rfl)) (pa_cons (pv 4) pa_nil)))))
      (pss_cons (ps_set (i := 6) sc__law_parts.nd rfl (by first | exact Or.inl rfl | exact Or.inr rfl) (pe_c c__law_mul hr (by decide) rfl (pa_cons (pv 2) (pa_cons (pe_c c__law_mul hr (by decide) rfl (pa_cons (pv 2) (pa_cons (pe_ix (ixt K) (pv 1) pe_int (fun _ _ => rfl)) (pa_cons (pv 4) pa_nil)))) (pa_cons (pe_c c__law_power hr (by decide) rfl (pa_cons (pv 2) (pa_cons (pv 3) (pa_cons (pe_op op_fdiv (pe_op op_add (pv 2) pe_int) pe_int) pa_nil)))) pa_nil)))))
      (pss_cons (ps_set (i := 7) sc__law_parts.nd rfl (by first | exact Or.inl rfl | exact Or.inr rfl) (pe_c c__law_mul hr (by decide) rfl (pa_cons (pv 2) (pa_cons (pe_ix (ixt K) (pv 1) pe_int (fun _ _ => rfl)) (pa_cons (pv 3) pa_nil)))))
      (pss_cons (ps_set (i := 8) sc__law_parts.nd rfl (by first | exact Or.inl rfl | exact Or.inr rfl) (pe_lst pa_nil))
      (pss_cons (ps_for PassesOwn.never rfl (pi_range1 (by rfl) fx.b_range (pa_cons (pv 2) pa_nil)) (pg_name (i := 9) sc__law_parts.nd rfl (by first | exact Or.inl rfl | exact Or.inr rfl))
      (pss_one (ps_expr (pe_bm PySem.F.plainAttrs_list PySem.F.slot_list_append PySem.F.type_list_append mt_append (pv 8) (pa_cons (pe_c c__law_least hr (by decide) rfl (pa_cons (pv 0) (pa_cons (pe_tup (pa_cons (pe_c c__law_mul hr (by decide) rfl (pa_cons (pv 2) (pa_cons (pe_c c__law_trim hr (by decide) rfl (pa_cons (pv 2) (pa_cons (pe_stepL K (pv 5) (pv 9) (pv 2)) pa_nil))) (pa_cons (pv 3) pa_nil)))) (pa_cons (pe_c c__law_trim hr (by decide) rfl (pa_cons (pv 2) (pa_cons (pe_stepL K (pv 6) (pv 9) (pv 2)) pa_nil))) (pa_cons (pv 7) pa_nil)))) pa_nil))) pa_nil)))))
      (pss_one (ps_ret (pv 8))))))))))), run_def (N := nm__law_parts) (fun ds d p => ?_) vs H Q E h⟩)
  · rintro ds d ⟨_, _, rfl, _⟩; rfl
  ·
    obtain ⟨c, T, rfl, ⟨cv, hT⟩, rfl⟩ := p
    have hLM : LM = 1000000 := rfl
    have hp := cv.pos
    have hpl := cv.pm.le
    have hpg := cv.pm.ge
    have a1 := hT.sz
    have a3 := cv.len
    have h1 := fLow_len cv hT
    have h2 := fHigh_len cv hT
    have l0 := pmul_len (p := c.1) (a := T.2.2) (b := c.2)
    have l1 := ppow_len (p := c.1) (a := T.2.2) (n := (c.1 - 1).toNat)
    have k1 : (c.1 - 1).toNat * T.2.2.length ≤ 12 * 3000 := Nat.mul_le_mul (by omega) a1.2.2
    have l2 := ppow_len (p := c.1) (a := c.2) (n := ((c.1 + 1) / 2).toNat)
    have k2 : ((c.1 + 1) / 2).toNat * c.2.length ≤ 7 * 8 := Nat.mul_le_mul (by omega) a3
    have l3 := pmul_len (p := c.1) (a := T.2.1) (b := ppow c.1 T.2.2 (c.1 - 1).toNat)
    show StD K _ [.val (toldD c), .val (triD T), .un, .un, .un, .un, .un, .un, .un, .un] _
    refine st_seq (st_unp2 (a := .int c.1) (b := inD c.2) (ev_var (i := 0) rfl)) ?_
    refine st_seq (st_set (ev_call (ea3 (ev_var rfl) (ev_tix2 (ev_var (i := 1) rfl)) (ev_sub (ev_var rfl) ev_int)) ⟨c.1, T.2.2, c.1 - 1, rfl, hp, hpl, by omega, by omega, Nat.le_trans k1 (by decide), by omega, rfl⟩)) ?_
    refine st_seq (st_set (d := inD (fLow c T)) (ev_call (ea3 (ev_var rfl) (ev_tix0 (ev_var (i := 1) rfl)) (ev_var rfl)) ⟨c.1, T.1, _, rfl, hp, by omega, by omega, hT.ls.n1.sm hpl, rfl⟩)) ?_
    refine st_seq (st_set (d := inD (fHigh c T)) (ev_call (ea3 (ev_var rfl) (ev_call (ea3 (ev_var rfl) (ev_tix1 (ev_var (i := 1) rfl)) (ev_var rfl)) ⟨c.1, T.2.1, _, rfl, hp, by omega, by omega, hT.ls.n2.sm hpl, rfl⟩) (ev_call (ea3 (ev_var rfl) (ev_var rfl) (ev_fdiv (by unfold CDiv; omega) (ev_add (ev_var rfl) ev_int) ev_int)) ⟨c.1, c.2, (c.1 + 1) / 2, rfl, hp, hpl, by omega, by omega, Nat.le_trans k2 (by decide), by omega, rfl⟩)) ⟨c.1, _, _, rfl, hp, by omega, by omega, (trim_nrm hp _).sm hpl, rfl⟩)) ?_
    refine st_seq (st_set (ev_call (ea3 (ev_var rfl) (ev_tix2 (ev_var (i := 1) rfl)) (ev_var rfl)) ⟨c.1, T.2.2, c.2, rfl, hp, by omega, by omega, hT.ls.n3.sm hpl, rfl⟩)) ?_
    refine st_seq (st_setN en_lst0) ?_
    refine st_seq (G1 := [.val (toldD c), .val (triD T), .val (.int c.1), .val (inD c.2), .val (inD (ppow c.1 T.2.2 (c.1 - 1).toNat)), .val (inD (fLow c T)), .val (inD (fHigh c T)), .val (inD (pmul c.1 T.2.2 c.2)), .own ((fParts c T).map triD), .un]) ?_ (st_retO rfl)
    refine StD.nxc (st_for (K := K) (S := List Tri) (as := rangeI 0 c.1.toNat) (enc := D.int) (Gs := fun l => [.val (toldD c), .val (triD T), .val (.int c.1), .val (inD c.2), .val (inD (ppow c.1 T.2.2 (c.1 - 1).toNat)), .val (inD (fLow c T)), .val (inD (fHigh c T)), .val (inD (pmul c.1 T.2.2 c.2)), .own (l.map triD), .un]) (step := fun l i => l ++ [fPart c T i]) (s0 := []) (it_rng1 (n := c.1) (by omega) (ev_var (i := 2) rfl)) fun pre x post e => ⟨_, _, tg_name, ?_⟩) (by rw [foldl_snoc]; rfl)
    have hx := rangeI_mem (mem_mid e)
    have hl : (pre.foldl (fun l i => l ++ [fPart c T i]) ([] : List Tri)).length ≤ LM := by
      rw [foldl_snoc]
      have := congrArg List.length e
      rw [rangeI_len, List.length_append] at this
      simp
      omega
    have e1 := pEvery_len (l := fLow c T) (i := x) hp
    have e2 := pEvery_len (l := fHigh c T) (i := x) hp
    have f1 := pickA_len (xs := fLow c T) (f := x) hp
    have f2 := pickA_len (xs := fHigh c T) (f := x) hp
    have l4 := pmul_len (p := c.1) (a := pEvery c.1 (fLow c T) x) (b := c.2)
    generalize pre.foldl (fun l i => l ++ [fPart c T i]) ([] : List Tri) = acc at hl ⊢
    exact StD.lp (StD.weak (st_appT (l := acc) (x := fPart c T x) rfl hl (ev_call (ea2 (ev_var (i := 0) rfl) (ev_tup (ea3 (ev_call (ea3 (ev_var rfl) (ev_call (d := inD (pEvery c.1 (fLow c T) x)) (ea2 (ev_var rfl) (ev_pub (en_stepT (enc := D.int) (xs := fLow c T) (f := x) hp (ev_var (i := 5) rfl) (ev_var rfl) (ev_var rfl)))) ⟨c.1, pickA (fLow c T) x c.1, rfl, hp, Nat.le_trans f1 (by omega), rfl⟩) (ev_var rfl)) ⟨c.1, pEvery c.1 (fLow c T) x, c.2, rfl, hp, by omega, by omega, (trim_nrm hp _).sm hpl, rfl⟩) (ev_call (d := inD (pEvery c.1 (fHigh c T) x)) (ea2 (ev_var rfl) (ev_pub (en_stepT (enc := D.int) (xs := fHigh c T) (f := x) hp (ev_var (i := 6) rfl) (ev_var rfl) (ev_var rfl)))) ⟨c.1, pickA (fHigh c T) x c.1, rfl, hp, Nat.le_trans f2 (by omega), rfl⟩) (ev_var rfl)) (by show 3 ≤ sizeLine; decide))) ⟨c, (pmul c.1 (pEvery c.1 (fLow c T) x) c.2, pEvery c.1 (fHigh c T) x, pmul c.1 T.2.2 c.2), rfl, ⟨cv.pm, ⟨trim_nrm hp _, trim_nrm hp _, trim_nrm hp _, pmul_ne cv.pm hT.ls.n3 cv.nr hT.ls.ne cv.ne, ⟨by show (pmul _ _ _).length ≤ _; omega, by show (pEvery _ _ _).length ≤ _; omega, by show (pmul _ _ _).length ≤ _; omega⟩⟩⟩, rfl⟩)) (.eq (.eq (.eq (.eq (.eq (.eq (.eq (.eq (.eq (.un .nil)))))))))))
end
end Cw
set_option maxHeartbeats 4000000
namespace Cw
open PySem PySem.Spec PyProof.Rows L2
open C8 (Cal Met Mak pe_c pe_mk pe_mt pe_mt0 pe_gc InsC call_isC)
section
variable {P : Program} {w : World} {K : Fg} {mg : Str → Option Value} {base : Heap} {f : Addr} {fd : FuncData}
abbrev s__law_asked : Stmt := top 96
abbrev nm__law_asked : List Str := ["told", "function", "one", "kept", "due", "found", "part"]
theorem sc__law_asked : FnScope nm__law_asked ["told", "function"] (defScope s__law_asked) := ⟨rfl, rfl, rfl, by decide +kernel, rfl, by decide +kernel, by decide +kernel⟩
theorem ok__law_asked (fx : Fx K mg) (k_whose_slope : CalK P w K mg base 13 "whose_slope" "one" (spD K (p_whose_slope K))) (c__law_seen : Cal P w K mg base 2 "_law_seen" (spD K (p__law_seen K)) []) (c__law_nought : Cal P w K mg base 1 "_law_nought" (spD K p__law_nought) []) (c_whose_slope : Cal P w K mg base 13 "whose_slope" (spD K (p_whose_slope K)) []) (c_parts : Cal P w K mg base 11 "parts" (spD K (p_parts K)) []) (c_descent : Cal P w K mg base 12 "descent" (spD K (p_descent K)) []) (c__law_parts : Cal P w K mg base 6 "_law_parts" (spD K p__law_parts) []) (c__law_same : Cal P w K mg base 3 "_law_same" (spD K p__law_same) []) (c__law_slope : Cal P w K mg base 6 "_law_slope" (spD K p__law_slope) []) (c_slope : Cal P w K mg base 11 "slope" (spD K (p_slope K)) []) (m_Function___eq__ : Met P w K mg base 2 (He.ga K "Function") "__eq__" (spD K (p_Function___eq__ K)) []) (F : FunD K "_law_asked" "_law_asked" (defArgs s__law_asked) (defBody s__law_asked) (defScope s__law_asked) [] [] f fd) : FnOk P w K mg base CX0 14 f fd ["told", "function"] (spD K (p__law_asked K)) := by
  refine F.ok sc__law_asked (spD_len (n := 2) ?_) (fun cdv A outer s H vs Q E hr h => ⟨_, PSs.nox ((pss_cons (ps_set (i := 2) sc__law_asked.nd rfl (by first | exact Or.inl rfl | exact Or.inr rfl) (pe_c c__law_seen hr (by decide) rfl (pa_cons (pv 1) pa_nil)))
      (pss_cons (ps_setLc (i := 3) (own := [("part", 6)]) rfl sc__law_asked.nd rfl rfl (sw_true rfl rfl rfl (by decide +kernel)) (pil K (pe_c c_parts hr (by decide) rfl (pa_cons (pv 1) pa_nil))) (blkOk_by (N := nm__law_asked) (sc := defScope s__law_asked) (by decide +kernel)) (fun _ _ _ _ _ => (pg_name (i := 6) sc__law_asked.nd rfl (by first | exact Or.inl rfl | exact Or.inr rfl))) (fun _ _ _ _ _ => pts_nil) (fun _ _ _ _ _ => (pe_c c__law_seen hr (by decide) rfl (pa_cons (pv 6) pa_nil))))
      (pss_cons (ps_if (pt_cmpR (opNe K hr.units) (pe_c c__law_seen hr (by decide) rfl (pa_cons (pe_c c_descent hr (by decide) rfl (pa_cons (pv 1) pa_nil)) pa_nil)) (pe_ix (ixl K) (pv 3) (pe_un un_neg pe_int) (fun _ _ => rfl)) (nomark _)) (pss_one (ps_ret pe_bl)) pss_nil)
      (pss_cons (ps_par (i := 4) (j := 5) (by rfl) sc__law_asked.nd rfl rfl (by decide) rfl rfl (pa_cons (pe_c c__law_nought hr (by decide) rfl (pa_cons (pe_ix (ixl K) (pe_c c__law_parts hr (by decide) rfl (pa_cons (pv 0) (pa_cons (pv 2) pa_nil))) (pe_un un_neg pe_int) (fun _ _ => rfl)) pa_nil)) (pa_cons (pe_c c_whose_slope hr (by decide) rfl (pa_cons (pv 1) pa_nil)) pa_nil)) (by rfl))
      (pss_cons (ps_if (PW.pt (pw_or (pt_cmpR (opNe K hr.units) (pe_lc (own := [("part", 6)]) rfl sc__law_asked.nd (pil K (pe_c c_parts hr (by decide) rfl (pa_cons (pv 1) pa_nil))) (blkOk_by (N := nm__law_asked) (sc := defScope s__law_asked) (by decide +kernel)) (fun _ _ _ _ _ => (pg_name (i := 6) sc__law_asked.nd rfl (by first | exact Or.inl rfl | exact Or.inr rfl))) (fun _ _ _ _ _ => pts_nil) (fun _ _ _ _ _ => (pe_c c__law_seen hr (by decide) rfl (pa_cons (pv 6) pa_nil)))) (pv 3) (nomark _)) (pw_or (pt_cmpR (opNe K hr.units) (pv 3) (pe_c c__law_parts hr (by decide) rfl (pa_cons (pv 0) (pa_cons (pv 2) pa_nil))) (nomark _)) (pw_or1 (pt_cmpR (opNe K hr.units) (pe_c c__law_seen hr (by decide) rfl (pa_cons (pe_c c_descent hr (by decide) rfl (pa_cons (pv 1) pa_nil)) pa_nil)) (pe_ix (ixl K) (pv 3) (pe_un un_neg pe_int) (fun _ _ => rfl)) (nomark _)))))) (pss_one (ps_ret pe_bl)) pss_nil)
      (pss_cons (ps_if (PW.pt (pw_or (pt_cmpR op_ne (pe_cmpR op_notN (pv 5) pe_non (nomark _)) (pv 4) (nomark _)) (pw_or (pt_cmpR op_ne (pe_callB call_reprB (by rfl) fx.b_repr (by decide +kernel) (pa_cons (pe_cmpR op_isN (pe_ck k_whose_slope hr (by decide) rfl (pk_cons (pv 1) pk_nil)) pe_non (nomark _)) pa_nil)) (pe_callB call_reprB (by rfl) fx.b_repr (by decide +kernel) (pa_cons (pe_cmpR op_isN (pv 5) pe_non (nomark _)) pa_nil)) (nomark _)) (pw_or1 (pt_cmpR (opNe K hr.units) (pe_c c__law_seen hr (by decide) rfl (pa_cons (pv 1) pa_nil)) (pv 2) (nomark _)))))) (pss_one (ps_ret pe_bl)) pss_nil)
      (pss_cons (ps_if (pt_cmpR op_isN (pv 5) pe_non (nomark _)) (pss_one (ps_ret pe_bl)) pss_nil)
      (pss_cons (ps_if (pt_cmpR op_notBl (pe_cmpR (opOwn m_Function___eq__ hr (by decide)) (pe_c c_whose_slope hr (by decide) rfl (pa_cons (pv 1) pa_nil)) (pv 5) (nomark _)) pe_bl (nomark _)) (pss_one (ps_ret pe_bl)) pss_nil)
      (pss_cons (ps_if (PW.pt (pw_or (pt_not (pt_val (pe_c c__law_same hr (by decide) rfl (pa_cons (pv 0) (pa_cons (pe_c c__law_slope hr (by decide) rfl (pa_cons (pv 0) (pa_cons (pe_c c__law_seen hr (by decide) rfl (pa_cons (pv 5) pa_nil)) pa_nil))) (pa_cons (pv 2) pa_nil)))))) (pw_or1 (pt_cmpR op_notBl (pe_cmpR (opOwn m_Function___eq__ hr (by decide)) (pe_c c_slope hr (by decide) rfl (pa_cons (pv 5) pa_nil)) (pv 1) (nomark _)) pe_bl (nomark _))))) (pss_one (ps_ret pe_bl)) pss_nil)
      (pss_one (ps_ret (pe_c c__law_nought hr (by decide) rfl (pa_cons (pe_ix (ixl K) (pe_c c__law_parts hr (by decide) rfl (pa_cons (pv 0) (pa_cons (pe_c c__law_seen hr (by decide) rfl (pa_cons (pv 5) pa_nil)) pa_nil))) pe_int (fun _ _ => rfl)) pa_nil)))))))))))))), run_def (N := nm__law_asked) (fun ds d p => ?_) vs H Q E h⟩)
  · rintro ds d ⟨_, _, rfl, _⟩; rfl
  ·
    obtain ⟨c, T, rfl, ⟨cv, hT⟩, rfl⟩ := p
    have hLM : LM = 1000000 := rfl
    have hp := cv.pos
    have hpl := cv.pm.le
    have hT3 : FnIn c T 3000 := hT.mono (by decide)
    have hlen : (fParts c T).length ≤ sizeLine := by rw [parts_lenE]; exact LMs (by omega)
    obtain ⟨Fd, hFd⟩ : ∃ Fd : D, Fd = if nought (fLast c T) then fnD K c (fSrc c T) else .non := ⟨_, rfl⟩
    have hN : isNon Fd = !decide (nought (fLast c T)) := by
      rw [hFd]
      by_cases z : nought (fLast c T)
      · rw [if_pos z]; simp [z, isNon, fnD]
      · rw [if_neg z]; simp [z, isNon]
    show StD K _ [.val (toldD c), .val (fnD K c T), .un, .un, .un, .un, .un] _
    refine st_seq (st_set (ev_call (ea1 (ev_var rfl)) ⟨c, T, rfl, trivial, rfl⟩)) ?_
    refine st_seq (st_setN ((en_lcT (as := fParts c T) (enc := fnD K c) triD (fun U => U) hlen (it_list (ev_call (ea1 (ev_var (i := 1) rfl)) ⟨c, T, rfl, ⟨cv, hT3⟩, rfl⟩)) fun pre U post e => ⟨_, _, tg_name, fun _ h => h, ev_call (ea1 (ev_var rfl)) ⟨c, U, rfl, trivial, rfl⟩⟩).cast (es := (fParts c T).map triD) (by rw [List.map_id']))) ?_
    refine st_pub (i := 3) rfl ?_
    show StD K _ [.val (toldD c), .val (fnD K c T), .val (triD T), .val (lsD triD (fParts c T)), .un, .un, .un] _
    have neLast : ∀ {G : Ctx}, G[1]? = some (.val (fnD K c T)) → G[3]? = some (.val (lsD triD (fParts c T))) → EvB K (tTest (tOp (rNeD K) (tCall (spD K (p__law_seen K)) [] C8.E0 (tCons (tCall (spD K (p_descent K)) [] C8.E0 (tCons (tVar 1) tNil)) tNil)) (tOp (rIxL K) (tVar 3) (tUn (rU fun i => V.int (-i)) (tC (V.int 1)))))) G false := fun g1 g3 =>
      (eb_test (ev_neL (a := fLast c T) (b := fLast c T) like_tri (by decide) (ev_call (ea1 (ev_call (ea1 (ev_var g1)) ⟨c, T, rfl, ⟨cv, hT3⟩, rfl⟩)) ⟨c, fLast c T, rfl, trivial, rfl⟩).h (ev_ixL (parts_lastE hp triD) (ev_var g3) ev_m1).h)).cast (by simp)
    refine st_ifS (x := false) (neLast rfl rfl) (fun h => nomatch h) fun _ => st_seqN ?_
    refine st_seq (st_par (c1 := .val (.bl (decide (nought (fLast c T))))) (c2 := .val Fd) (em_v (ev_call (ea1 (ev_ixL (parts_lastE hp triD) (ev_call (ea2 (ev_var rfl) (ev_var rfl)) ⟨c, T, rfl, ⟨cv, hT3⟩, rfl⟩) ev_m1)) ⟨fLast c T, rfl, trivial, rfl⟩)) (em_v (ev_call (ea1 (ev_var rfl)) ⟨c, T, rfl, ⟨cv, hT3⟩, hFd⟩)) (fun h => nomatch h) (fun h => nomatch h) (by decide)) ?_
    show StD K _ [.val (toldD c), .val (fnD K c T), .val (triD T), .val (lsD triD (fParts c T)), .val (.bl (decide (nought (fLast c T)))), .val Fd, .un] _
    refine st_ifS (x := false) ((eb_or (x := false) (y := false) ((eb_test (ev_neL (a := fParts c T) (b := fParts c T) (like_lst like_tri) (by decide) (ev_pub ((en_lcT (as := fParts c T) (enc := fnD K c) triD (fun U => U) hlen (it_list (ev_call (ea1 (ev_var (i := 1) rfl)) ⟨c, T, rfl, ⟨cv, hT3⟩, rfl⟩)) fun pre U post e => ⟨_, _, tg_name, fun _ h => h, ev_call (ea1 (ev_var rfl)) ⟨c, U, rfl, trivial, rfl⟩⟩).cast (es := (fParts c T).map triD) (by rw [List.map_id']))).h (ev_var rfl).h)).cast (by simp)) fun _ => eb_or (x := false) (y := false) ((eb_test (ev_neL (a := fParts c T) (b := fParts c T) (like_lst like_tri) (by decide) (ev_var rfl).h (ev_call (ea2 (ev_var rfl) (ev_var rfl)) ⟨c, T, rfl, ⟨cv, hT3⟩, rfl⟩).h)).cast (by simp)) fun _ => neLast rfl rfl)) (fun h => nomatch h) fun _ => st_seqN ?_
    refine st_ifS (x := false) ((eb_or (x := false) (y := false) ((eb_test (ev_neB (ev_notN (ev_var (i := 5) rfl)) (ev_var (i := 4) rfl))).cast (by rw [hN]; simp)) fun _ => eb_or (x := false) (y := false) ((eb_test (ev_neS (ev_repr (ev_isN (ev_ck (ea1 (ev_var (i := 1) rfl)) ⟨c, T, rfl, ⟨cv, hT3⟩, hFd⟩))) (ev_repr (ev_isN (ev_var (i := 5) rfl)))))) fun _ => (eb_test (ev_neL (a := T) (b := T) like_tri (by decide) (ev_call (ea1 (ev_var (i := 1) rfl)) ⟨c, T, rfl, trivial, rfl⟩).h (ev_var (i := 2) rfl).h)).cast (by simp))) (fun h => nomatch h) fun _ => st_seqN ?_
    refine st_ifS (x := isNon Fd) (eb_test (ev_isN (ev_var (i := 5) rfl))) (fun h => st_seqR (st_ret ev_bl)) fun h => st_seqN ?_
    have hn : nought (fLast c T) := by
      rw [hN] at h
      simpa using h
    rw [if_pos hn] at hFd
    have hV := fSrc_in cv hT
    have hV3 : FnIn c (fSrc c T) 3000 := hV.mono (by decide)
    have hS := src_slope cv hT.ls hn
    have hF := src_first cv hT.ls hn
    have hTs := hT3.sz
    rw [hFd]
    show StD K _ [.val (toldD c), .val (fnD K c T), .val (triD T), .val (lsD triD (fParts c T)), .val (.bl (decide (nought (fLast c T)))), .val (fnD K c (fSrc c T)), .un] _
    refine st_ifS (x := false) ((eb_test (ev_notT (ev_own (ev_call (ea1 (ev_var (i := 1) rfl)) ⟨c, T, rfl, ⟨cv, hT3⟩, by rw [if_pos hn]; rfl⟩) (ev_var (i := 5) rfl) ⟨c, fSrc c T, rfl, trivial, rfl⟩))).cast (by simp)) (fun h => nomatch h) fun _ => st_seqN ?_
    refine st_ifS (x := false) ((eb_or (x := false) (y := false) (eb_not (x := true) (eb_val (ev_call (d := .bl true) (ea3 (ev_var (i := 0) rfl) (ev_call (d := triD T) (ea2 (ev_var (i := 0) rfl) (ev_call (ea1 (ev_var (i := 5) rfl)) ⟨c, fSrc c T, rfl, trivial, rfl⟩)) ⟨c, fSrc c T, rfl, ⟨cv, hV3.mono (by decide)⟩, by rw [hS]⟩) (ev_var (i := 2) rfl)) ⟨c, T, T, rfl, ⟨cv.pm, hT.ls.n1, hT.ls.n2, hT.ls.n1, hT.ls.n2, ⟨by omega, by omega, by omega⟩, ⟨by omega, by omega, by omega⟩, rfl, rfl⟩, rfl⟩))) fun _ => (eb_test (ev_notT (ev_own (ev_call (d := fnD K c T) (ea1 (ev_var (i := 5) rfl)) ⟨c, fSrc c T, rfl, ⟨cv, hV3.mono (by decide)⟩, by rw [hS]⟩) (ev_var (i := 1) rfl) ⟨c, T, rfl, trivial, rfl⟩))).cast (by simp))) (fun h => nomatch h) fun _ => st_seqN ?_
    exact st_ret ((ev_call (ea1 (ev_ixL (parts_firstE hp triD) (ev_call (ea2 (ev_var (i := 0) rfl) (ev_call (ea1 (ev_var (i := 5) rfl)) ⟨c, fSrc c T, rfl, trivial, rfl⟩)) ⟨c, fSrc c T, rfl, ⟨cv, hV3⟩, rfl⟩) ev_int)) ⟨fPart c (fSrc c T) 0, rfl, trivial, rfl⟩).cast (by simp [hF]))
end
end Cw
set_option maxHeartbeats 4000000
namespace Cw
open PySem PySem.Spec PyProof.Rows L2
open C8 (Cal Met Mak pe_c pe_mk pe_mt pe_mt0 pe_gc InsC call_isC)
section
variable {P : Program} {w : World} {K : Fg} {mg : Str → Option Value} {base : Heap} {f : Addr} {fd : FuncData}
abbrev s__law_random : Stmt := top 72
abbrev nm__law_random : List Str := ["generator", "bound", "drawn", "turn"]
theorem sc__law_random : FnScope nm__law_random ["generator", "bound"] (defScope s__law_random) := ⟨rfl, rfl, rfl, by decide +kernel, rfl, by decide +kernel, by decide +kernel⟩
theorem ok__law_random (fx : Fx K mg) (c__law_hash : Cal P w K mg base 1 "_law_hash" (spD K p__law_hash) []) (F : FunD K "_law_random" "_law_random" (defArgs s__law_random) (defBody s__law_random) (defScope s__law_random) [] [] f fd) : FnOk P w K mg base CX0 2 f fd ["generator", "bound"] (spG K 1 p__law_random) := by
  refine F.ok sc__law_random ?_ (fun cdv A outer s H vs Q E hr h => ⟨_, PSs.nox ((pss_cons (ps_if (pt_cmpR op_gt (pe_ix (ixl K) (pv 0) pe_int (fun _ _ => rfl)) pe_int (nomark _)) (pss_cons (ps_set (i := 2) sc__law_random.nd rfl (by first | exact Or.inl rfl | exact Or.inr rfl) (pe_op op_mod (pe_callTy call_int1 (by rfl) fx.b_int (by decide +kernel) (pa_cons (pe_ix (ixl K) (pv 0) pe_int (fun _ _ => rfl)) pa_nil)) (pv 1)))
      (pss_cons (ps_asg (pe_op op_fdivW (pe_ix (ixl K) (pv 0) pe_int (fun _ _ => rfl)) (pv 1)) (pg_sub (pv 0) pe_int set_list))
      (pss_one (ps_ret (pv 2))))) pss_nil)
      (pss_cons (ps_set (i := 2) sc__law_random.nd rfl (by first | exact Or.inl rfl | exact Or.inr rfl) pe_int)
      (pss_cons (ps_for PassesOwn.never rfl (pi_range1 (by rfl) fx.b_range (pa_cons (pe_op op_add pe_int (pe_op op_fdivW (pe_bits (pv 1)) pe_int)) pa_nil)) (pg_name (i := 3) sc__law_random.nd rfl (by first | exact Or.inl rfl | exact Or.inr rfl))
      (pss_cons (ps_asg (pe_op op_add (pe_ix (ixl K) (pv 0) pe_int (fun _ _ => rfl)) pe_int) (pg_sub (pv 0) pe_int set_list))
      (pss_one (ps_set (i := 2) sc__law_random.nd rfl (by first | exact Or.inl rfl | exact Or.inr rfl) (pe_op op_add (pe_op op_mul (pv 2) pe_int) (pe_c c__law_hash hr (by decide) rfl (pa_cons (pe_ix (ixl K) (pv 0) pe_int (fun _ _ => rfl)) (pa_cons (pe_ix (ixl K) (pv 0) pe_int (fun _ _ => rfl)) pa_nil))))))))
      (pss_one (ps_ret (pe_op op_mod (pe_callTy call_int1 (by rfl) fx.b_int (by decide +kernel) (pa_cons (pv 2) pa_nil)) (pv 1)))))))), ?_⟩)
  · exact spG_len (by rintro ds d ⟨_, _, rfl, _⟩; rfl)
  · refine run_gen (N := nm__law_random) (fun g ds n hd hn => ?_) vs H Q E h
    obtain ⟨_, b, _, rfl, hb, _⟩ := hd
    have hbits : Builtin.Int.intBits b ≤ 10 := PyProof.Rows.intBits_le (k := 10) (by omega)
    have hdw : CDivW 0 b := by
      refine ⟨by omega, ?_⟩
      have := wide_div (i := 0) (j := b) (b := 10) (by omega) (by omega) (by decide) (by decide)
      exact this.2
    show StG K g 0 _ [.un, .val (.int b), .un, .un] n (n + 1) _
    refine sg_if (eg_op (P := fun d => ∃ b : Bool, d = .bl b) (eg_cell (j := 0) (by decide)) (eg_ev ev_int) fun a c ⟨v, hv, _⟩ hc => ?_) (fun d h => h) (sg_seqR ?_) (sg_next ?_)
    · subst hv hc
      exact ⟨.bl (decide (0 < v)), op_I0 fun _ => rfl, _, rfl⟩
    · refine sg_set (P := fun d => ∃ v : Int, d = .int v ∧ 0 ≤ v ∧ v < b) (by decide) (eg_op (P1 := fun d => ∃ v : Int, d = .int v) (eg_callB1 (eg_cell (j := 0) (by decide)) fun d ⟨v, hv, _⟩ => ⟨.int v, by subst hv; exact oa_int, v, rfl⟩) (eg_ev (ev_var rfl)) fun a c ⟨v, hv⟩ hc => ?_) fun d ⟨v, hv, h0, h1⟩ => ?_
      · subst hv hc
        exact ⟨.int (v % b), op_I (by omega) fun _ => rfl, v % b, rfl, Int.emod_nonneg _ (by omega), Int.emod_lt_of_pos _ (by omega)⟩
      · subst hv
        refine sg_gset (j := 0) (n1 := n) (n2 := n) (P := fun d => ∃ v : Int, d = .int v ∧ 0 ≤ v) (by decide) (eg_op (eg_cell (j := 0) (by decide)) (eg_ev (ev_var rfl)) fun a c ⟨w, hw, w0, _⟩ hc => ?_) (fun d ⟨w, hw, w0⟩ => ⟨w, hw, w0, And.intro (fun h => absurd h (by decide)) (fun h => absurd h (by decide))⟩) (Nat.le_refl _) ?_
        · subst hw hc
          exact ⟨.int (w / b), op_I ⟨hdw.1, hdw.2⟩ fun _ => rfl, w / b, rfl, Int.ediv_nonneg w0 (by omega)⟩
        · exact sg_ret (eg_ev (ev_var rfl)) (Nat.le_succ _) fun d hd => ⟨b, v, rfl, hb, hd, h0, h1⟩
    · refine sg_set (j := 2) (by decide) (eg_ev ev_int) fun d hd => ?_
      subst hd
      show StG K g 0 _ [.un, .val (.int b), .val (.int 0), .un] n (n + 1) _
      refine sg_seqN (sgn_for (m := 1) (k := 1) (O := fun G' => ∃ d : Int, G' = [.un, .val (.int b), .val (.int d), .un]) (by decide) (by decide) ((ev_add ev_int (ev_fdivW (by unfold CDivW; decide) (ev_bits (ev_var (i := 1) rfl)) ev_int)).cast (by congr 1; omega)) ⟨0, rfl⟩ fun G' x n' ⟨d, hG⟩ hn' => ?_) fun G' ⟨d, hG⟩ => ?_
      · subst hG
        show StGN K g 0 _ [.un, .val (.int b), .val (.int d), .val (.int x)] n' (n' + 1) _
        refine sgn_gset (j := 2) (n1 := n') (n2 := n' + 1) (P := fun d => ∃ v : Int, d = .int v ∧ 0 ≤ v ∧ v ≤ n' + 1) (by decide) (eg_op (eg_cell (j := 2) (by decide)) (eg_ev ev_int) fun a c ⟨v, hv, v0, _, v2⟩ hc => ?_) (fun d ⟨w, hw, w0, w1⟩ => ⟨w, hw, w0, And.intro (fun h => absurd h (by decide)) (fun _ => by omega)⟩) (Nat.le_succ _) ?_
        · subst hv hc
          have := v2 rfl
          exact ⟨.int (v + 1), op_I0 fun _ => rfl, v + 1, rfl, by omega, by omega⟩
        · refine sgn_set (j := 2) (P := fun d => ∃ v : Int, d = .int v) (by decide) (eg_op (eg_ev (ev_mulS (.inr (by decide)) (ev_var rfl) ev_int)) (eg_callD (P' := fun d => ∃ v : Int, d = .int v) (ega_cons (eg_cell (j := 1) (by decide)) fun _ _ => ega_cons (eg_cell (j := 2) (by decide)) fun _ _ => ega_nil) fun ds hd => ?_) fun a c ha ⟨v, hv⟩ => ?_) fun e ⟨v, hv⟩ => ⟨_, ⟨v, rfl⟩, ?_⟩
          · obtain ⟨d1, es, rfl, ⟨v1, hv1, a0, a1, _⟩, d2, es2, rfl, ⟨v2, hv2, b0, _, b2⟩, rfl⟩ := hd
            subst hv1 hv2
            have := a1 rfl
            have := b2 rfl
            exact ⟨_, ⟨v1, v2, rfl, ⟨a0, by omega, b0, by omega⟩, rfl⟩, _, rfl⟩
          · subst ha hv
            exact ⟨.int _, op_I0 fun _ => rfl, _, rfl⟩
          · subst hv
            exact .eq (.eq (.eq (.un .nil)))
      · subst hG
        show StG K g 0 _ [.un, .val (.int b), .val (.int d), .un] (n + 1 * 1) (n + 1) _
        exact sg_ret (eg_ev (ev_mod (by omega) (ev_intc (ev_var rfl)) (ev_var rfl))) (by omega) fun e he => ⟨b, d % b, rfl, hb, he, Int.emod_nonneg _ (by omega), Int.emod_lt_of_pos _ (by omega)⟩
abbrev s__law_generator : Stmt := top 74
abbrev nm__law_generator : List Str := ["script", "index", "seed"]
theorem sc__law_generator : FnScope nm__law_generator ["script", "index"] (defScope s__law_generator) := ⟨rfl, rfl, rfl, by decide +kernel, rfl, by decide +kernel, by decide +kernel⟩
theorem ok__law_generator (fx : Fx K mg) (c__law_cell : Cal P w K mg base 1 "_law_cell" (spD K p__law_cell) []) (F : FunD K "_law_generator" "_law_generator" (defArgs s__law_generator) (defBody s__law_generator) (defScope s__law_generator) [] [] f fd) : FnOk P w K mg base CX0 2 f fd ["script", "index"] (spN K p__law_generator) := by
  refine F.ok sc__law_generator ?_ (fun cdv A outer s H vs Q E hr h => ⟨_, PSs.nox ((pss_cons (ps_set (i := 2) sc__law_generator.nd rfl (by first | exact Or.inl rfl | exact Or.inr rfl) (pe_c c__law_cell hr (by decide) rfl (pa_cons (pv 0) (pa_cons (pv 1) pa_nil))))
      (pss_one (ps_ret (pe_lst (pa_cons (pe_op op_mod (pe_callTy call_int1 (by rfl) fx.b_int (by decide +kernel) (pa_cons (pe_callB (call_max2 rfl) (by rfl) fx.b_max (by decide +kernel) (pa_cons (pe_op op_sub (pv 2) (pe_op op_powW pe_int pe_int)) (pa_cons pe_int pa_nil))) pa_nil)) (pe_op op_powW (pe_op op_powW pe_int pe_int) pe_int)) (pa_cons (pe_op op_mod (pe_callTy call_int1 (by rfl) fx.b_int (by decide +kernel) (pa_cons (pv 2) pa_nil)) pe_int) (pa_cons (pe_op op_mul pe_int (pv 1)) pa_nil)))))))), ?_⟩)
  · exact spN_len (n := 2) (by rintro ds d ⟨_, _, _, rfl, _⟩; rfl)
  · obtain ⟨F1, ds, sf, r, ⟨es0, ns, x0, s0, rfl, _⟩, q⟩ := h
    have sk := sok0 (N := nm__law_generator) sf r
    refine st_nx sk (st_set (i := 2) (ev_call (ea2 (ev_var (i := 0) rfl) (ev_var (i := 1) rfl)) ⟨ns, 0, rfl, rfl, rfl⟩)) fun σ' F' H' s' f' => ?_
    refine en_lst (K := K) (ds := [.int (max (ns.headD 0 - 10 ^ (18 : Int).toNat) 0 % (10 ^ (60 : Int).toNat) ^ (10 : Int).toNat), .int (ns.headD 0 % 2147483647), .int (1000 * 0)]) (ea3 (ev_mod (by decide +kernel) (ev_intc (ev_max (ev_sub (ev_var (i := 2) rfl) (ev_powW (by unfold CPowW; decide +kernel) ev_int ev_int)) ev_int)) (ev_powW (by unfold CPowW; decide +kernel) (ev_powW (by unfold CPowW; decide +kernel) ev_int ev_int) ev_int)) (ev_mod (by decide) (ev_intc (ev_var (i := 2) rfl)) ev_int) (ev_mulS (.inl (by decide)) ev_int (ev_var (i := 1) rfl))) (by show 3 ≤ sizeLine; decide) _ _ F' H' σ' s' _ fun p vs F2 H2 t2 h1 h2 h3 r3 => ?_
    exact q _ p vs F2 H2 ⟨ns, _, _, rfl, rfl, Int.emod_nonneg _ (by decide +kernel), Int.emod_nonneg _ (by decide), by have := Int.emod_lt_of_pos (ns.headD 0) (b := 2147483647) (by decide); omega⟩ (s'.st.trans t2) (s'.st.hh.free h1) h2 h3 r3
abbrev s__law_poly : Stmt := top 84
abbrev nm__law_poly : List Str := ["generator", "p", "most", "turn"]
theorem sc__law_poly : FnScope nm__law_poly ["generator", "p", "most"] (defScope s__law_poly) := ⟨rfl, rfl, rfl, by decide +kernel, rfl, by decide +kernel, by decide +kernel⟩
theorem ok__law_poly (fx : Fx K mg) (c__law_trim : Cal P w K mg base 1 "_law_trim" (spD K p__law_trim) []) (c__law_random : Cal P w K mg base 2 "_law_random" (spG K 1 p__law_random) []) (F : FunD K "_law_poly" "_law_poly" (defArgs s__law_poly) (defBody s__law_poly) (defScope s__law_poly) [] [] f fd) : FnOk P w K mg base CX0 3 f fd ["generator", "p", "most"] (spG K 12 p__law_poly) := by
  refine F.ok sc__law_poly ?_ (fun cdv A outer s H vs Q E hr h => ⟨_, PSs.nox ((pss_one (ps_ret (pe_c c__law_trim hr (by decide) rfl (pa_cons (pv 1) (pa_cons (pe_lc (own := [("turn", 3)]) rfl sc__law_poly.nd (pi_range1 (by rfl) fx.b_range (pa_cons (pe_c c__law_random hr (by decide) rfl (pa_cons (pv 0) (pa_cons (pe_op op_add (pv 2) pe_int) pa_nil))) pa_nil)) (blkOk_by (N := nm__law_poly) (sc := defScope s__law_poly) (by decide +kernel)) (fun _ _ _ _ _ => (pg_name (i := 3) sc__law_poly.nd rfl (by first | exact Or.inl rfl | exact Or.inr rfl))) (fun _ _ _ _ _ => pts_nil) (fun _ _ _ _ _ => (pe_c c__law_random hr (by decide) rfl (pa_cons (pv 0) (pa_cons (pv 1) pa_nil))))) pa_nil)))))), ?_⟩)
  · exact spG_len (by rintro ds d ⟨_, _, _, rfl, _⟩; rfl)
  · refine run_gen (N := nm__law_poly) (fun g ds n hd hn => ?_) vs H Q E h
    obtain ⟨_, p, most, _, rfl, ⟨hp, m0, m1⟩, _⟩ := hd
    have hLM : LM = 1000000 := rfl
    have hpl := hp.le
    have hpg := hp.ge
    show StG K g 0 _ [.un, .val (.int p), .val (.int most), .un] n (n + 12) _
    refine sg_ret (P := fun d => ∃ l : List Int, (l.length : Int) ≤ most + 1 ∧ d = inD (trim p l)) (eg_callD (ega_cons (eg_ev (ev_var (i := 1) rfl)) fun d hd => ega_cons (eg_lc (M := 11) (k := 1) (n0 := n + 1) (P1 := fun d => ∃ v : Int, d = .int v ∧ 0 ≤ v ∧ v < most + 2) (P := fun d => ∃ v : Int, d = .int v) (by decide) (fun σ _ => List.getElem?_set_ne (by decide)) (by decide) (by decide) ((eg_call (by omega) (ega_ev (ea1 (ev_add (ev_var rfl) ev_int))) fun ds hds => ⟨.int 0, most + 2, 0, hds, by omega, rfl, by omega, by omega⟩).imp fun d ⟨ds, hds, b, v, hb, _, hd, v0, v1⟩ => ?_) (fun d ⟨v, hv, v0, v1⟩ => ⟨v, hv, v0, by omega⟩) fun x n' hn' => (eg_call (by omega) (ega_ev (ea1 (ev_var rfl))) fun ds hds => ⟨.int 0, p, 0, hds, by omega, rfl, by omega, by omega⟩).imp fun d ⟨ds, hds, b, v, hb, _, hd, _⟩ => ⟨v, hd⟩) fun _ _ => ega_nil) fun ds hds => ?_) (by omega) fun d ⟨l, hl, hd⟩ => ⟨p, most, trim p l, rfl, ⟨hp, m0, m1⟩, trim_nrm hp.pos _, by have := trim_len (p := p) (l := l); omega, hd⟩
    · rw [hds] at hb
      cases hb
      exact ⟨v, hd, v0, v1⟩
    · obtain ⟨d1, es, rfl, h1, d2, es2, rfl, ⟨m, ⟨v, hv, v0, v1⟩, xs, rfl, hx, hp2⟩, rfl⟩ := hds
      cases h1
      cases hv
      obtain ⟨l, rfl⟩ := ints_of hp2
      rw [List.length_map] at hx
      exact ⟨_, ⟨p, l, rfl, hp.pos, by omega, rfl⟩, l, by omega, rfl⟩
abbrev s__law_curve : Stmt := top 85
abbrev nm__law_curve : List Str := ["generator", "most", "p", "size", "found", "turn", "drawn", "at"]
theorem sc__law_curve : FnScope nm__law_curve ["generator", "most"] (defScope s__law_curve) := ⟨rfl, rfl, rfl, by decide +kernel, rfl, by decide +kernel, by decide +kernel⟩
theorem ok__law_curve (fx : Fx K mg) (c__law_random : Cal P w K mg base 2 "_law_random" (spG K 1 p__law_random) []) (c__law_common : Cal P w K mg base 4 "_law_common" (spD K p__law_common) []) (c__law_fall : Cal P w K mg base 2 "_law_fall" (spD K p__law_fall) []) (F : FunD K "_law_curve" "_law_curve" (defArgs s__law_curve) (defBody s__law_curve) (defScope s__law_curve) [] [] f fd) : FnOk P w K mg base CX0 5 f fd ["generator", "most"] (spG K 62 p__law_curve) := by
  refine F.ok sc__law_curve ?_ (fun cdv A outer s H vs Q E hr h => ⟨_, PSs.nox ((pss_cons (ps_set (i := 2) sc__law_curve.nd rfl (by first | exact Or.inl rfl | exact Or.inr rfl) (pe_ix (ixl K) (pe_lst (pa_cons pe_int (pa_cons pe_int (pa_cons pe_int (pa_cons pe_int (pa_cons pe_int (pa_cons pe_int pa_nil))))))) (pe_c c__law_random hr (by decide) rfl (pa_cons (pv 0) (pa_cons pe_int pa_nil))) (fun _ _ => rfl)))
      (pss_cons (ps_par (i := 3) (j := 4) (by rfl) sc__law_curve.nd rfl rfl (by decide) rfl rfl (pa_cons (pe_ix (ixl K) (pe_lst (pa_cons pe_int (pa_cons pe_int (pa_cons pe_int (pa_cons pe_int (pa_cons pe_int (pa_cons pe_int (pa_cons pe_int pa_nil)))))))) (pe_c c__law_random hr (by decide) rfl (pa_cons (pv 0) (pa_cons pe_int pa_nil))) (fun _ _ => rfl)) (pa_cons (pe_lst (pa_cons pe_int (pa_cons pe_int pa_nil))) pa_nil)) (by rfl))
      (pss_cons (ps_set (i := 3) sc__law_curve.nd rfl (by first | exact Or.inl rfl | exact Or.inr rfl) (pe_callB (call_min3Nu rfl) (by rfl) fx.b_min (by decide +kernel) (pa_cons (pv 3) (pa_cons (pv 1) (pa_cons (pe_dget (room_u1 hr) (pe_disp (pps_cons pe_int pe_int (pps_cons pe_int pe_int (pps_cons pe_int pe_int pps_nil))) rfl rfl (by decide) (by decide)) (pv 2) (fun _ _ => rfl)) pa_nil)))))
      (pss_cons (ps_for PassesOwn.never rfl (pi_range1 (by rfl) fx.b_range (pa_cons pe_int pa_nil)) (pg_name (i := 5) sc__law_curve.nd rfl (by first | exact Or.inl rfl | exact Or.inr rfl))
      (pss_cons (ps_set (i := 6) sc__law_curve.nd rfl (by first | exact Or.inl rfl | exact Or.inr rfl) (pe_op op_cat (pe_lc (own := [("at", 7)]) rfl sc__law_curve.nd (pi_range1 (by rfl) fx.b_range (pa_cons (pv 3) pa_nil)) (blkOk_by (N := nm__law_curve) (sc := defScope s__law_curve) (by decide +kernel)) (fun _ _ _ _ _ => (pg_name (i := 7) sc__law_curve.nd rfl (by first | exact Or.inl rfl | exact Or.inr rfl))) (fun _ _ _ _ _ => pts_nil) (fun _ _ _ _ _ => (pe_c c__law_random hr (by decide) rfl (pa_cons (pv 0) (pa_cons (pv 2) pa_nil))))) (pe_lst (pa_cons pe_int pa_nil))))
      (pss_one (ps_if (PW.pt (pw_and (pt_cmpR op_eq (pe_callB (lenS K) (by rfl) fx.b_len (by decide +kernel) (pa_cons (pv 4) pa_nil)) pe_int (nomark _)) (pw_and1 (pt_cmpR op_eq (pe_callB (lenS K) (by rfl) fx.b_len (by decide +kernel) (pa_cons (pe_c c__law_common hr (by decide) rfl (pa_cons (pv 2) (pa_cons (pv 6) (pa_cons (pe_c c__law_fall hr (by decide) rfl (pa_cons (pv 2) (pa_cons (pv 6) pa_nil))) pa_nil)))) pa_nil)) pe_int (nomark _))))) (pss_one (ps_set (i := 4) sc__law_curve.nd rfl (by first | exact Or.inl rfl | exact Or.inr rfl) (pv 6))) pss_nil))))
      (pss_one (ps_ret (pe_tup (pa_cons (pv 2) (pa_cons (pv 4) pa_nil)))))))))), ?_⟩)
  · exact spG_len (by rintro ds d ⟨_, rfl, _⟩; rfl)
  · refine run_gen (N := nm__law_curve) (fun g ds n hd hn => ?_) vs H Q E h
    obtain ⟨_, _, rfl, _, _, _⟩ := hd
    have hLM : LM = 1000000 := rfl
    show StG K g 0 _ [.un, .val (.int 5), .un, .un, .un, .un, .un, .un] n (n + 62) _
    have rnd : ∀ {G : Ctx} {m : Nat} {b : Int} {tb : TE}, EvD K tb G (.int b) → 1 ≤ b → b ≤ 1000 → m + 1 ≤ 2 ^ 30 → EvG K g 0 (tCall (spG K 1 p__law_random) [] C8.E0 (tCons (tVar 0) (tCons tb tNil))) G m (m + 1) (fun d => ∃ v : Int, d = .int v ∧ 0 ≤ v ∧ v < b) := fun hb b1 b2 hm =>
      (eg_call hm (ega_ev (ea1 hb)) fun ds hds => ⟨.int 0, _, 0, hds, ⟨b1, b2⟩, rfl, by omega, by omega⟩).imp fun d ⟨ds, hds, b', v, hb', _, hd, v0, v1⟩ => by
        rw [hds] at hb'
        cases hb'
        exact ⟨v, hd, v0, v1⟩
    refine sg_set (j := 2) (P := fun d => ∃ p : Int, d = .int p ∧ (p = 3 ∨ p = 5 ∨ p = 7)) (by decide) (eg_op (eg_ev (d := inD [3, 3, 5, 3, 5, 7]) (ev_pub (en_lst (ea_cons ev_int (ea_cons ev_int (ea_cons ev_int (ea_cons ev_int (ea_cons ev_int (ea1 ev_int)))))) (by show 6 ≤ sizeLine; decide)))) (rnd ev_int (by decide) (by decide) (by omega)) fun a b ha ⟨v, hv, v0, v1⟩ => ?_) fun d ⟨p, hd, hp⟩ => ?_
    · subst ha hv
      have hv' : v = 0 ∨ v = 1 ∨ v = 2 ∨ v = 3 ∨ v = 4 ∨ v = 5 := by omega
      rcases hv' with rfl | rfl | rfl | rfl | rfl | rfl
      · exact ⟨.int 3, op_ixLD rfl, 3, rfl, .inl rfl⟩
      · exact ⟨.int 3, op_ixLD rfl, 3, rfl, .inl rfl⟩
      · exact ⟨.int 5, op_ixLD rfl, 5, rfl, .inr (.inl rfl)⟩
      · exact ⟨.int 3, op_ixLD rfl, 3, rfl, .inl rfl⟩
      · exact ⟨.int 5, op_ixLD rfl, 5, rfl, .inr (.inl rfl)⟩
      · exact ⟨.int 7, op_ixLD rfl, 7, rfl, .inr (.inr rfl)⟩
    subst hd
    have hpm : Pm p := by unfold Pm; omega
    have hpp := hpm.pos
    show StG K g 0 _ [.un, .val (.int 5), .val (.int p), .un, .un, .un, .un, .un] (n + 1) (n + 62) _
    refine sg_par (j := 3) (l := 4) (P1 := fun d => ∃ s : Int, d = .int s ∧ (s = 1 ∨ s = 3 ∨ s = 5 ∨ s = 7)) (by decide) (by decide) (eg_op (eg_ev (d := inD [3, 3, 5, 1, 3, 5, 7]) (ev_pub (en_lst (ea_cons ev_int (ea_cons ev_int (ea_cons ev_int (ea_cons ev_int (ea_cons ev_int (ea_cons ev_int (ea1 ev_int))))))) (by show 7 ≤ sizeLine; decide)))) (rnd ev_int (by decide) (by decide) (by omega)) fun a b ha ⟨v, hv, v0, v1⟩ => ?_) (eg_ev (d := inD [0, 1]) (ev_pub (en_lst (ea2 ev_int ev_int) (by show 2 ≤ sizeLine; decide)))) fun d e ⟨s, hs, hs2⟩ he => ?_
    · subst ha hv
      have hv' : v = 0 ∨ v = 1 ∨ v = 2 ∨ v = 3 ∨ v = 4 ∨ v = 5 ∨ v = 6 := by omega
      rcases hv' with rfl | rfl | rfl | rfl | rfl | rfl | rfl
      · exact ⟨.int 3, op_ixLD rfl, 3, rfl, .inr (.inl rfl)⟩
      · exact ⟨.int 3, op_ixLD rfl, 3, rfl, .inr (.inl rfl)⟩
      · exact ⟨.int 5, op_ixLD rfl, 5, rfl, .inr (.inr (.inl rfl))⟩
      · exact ⟨.int 1, op_ixLD rfl, 1, rfl, .inl rfl⟩
      · exact ⟨.int 3, op_ixLD rfl, 3, rfl, .inr (.inl rfl)⟩
      · exact ⟨.int 5, op_ixLD rfl, 5, rfl, .inr (.inr (.inl rfl))⟩
      · exact ⟨.int 7, op_ixLD rfl, 7, rfl, .inr (.inr (.inr rfl))⟩
    subst hs he
    show StG K g 0 _ [.un, .val (.int 5), .val (.int p), .val (.int s), .val (inD [0, 1]), .un, .un, .un] (n + 1 + 1) (n + 62) _
    obtain ⟨v, hv, hv2⟩ : ∃ v : Int, valV (mergeK [] [((Sum.inl 3 : Key), V.int 7), (.inl 5, .int 5), (.inl 7, .int 3)]) (.inl p) = some (.int v) ∧ (v = 7 ∨ v = 5 ∨ v = 3) := by
      rcases hp with rfl | rfl | rfl
      · exact ⟨7, rfl, .inl rfl⟩
      · exact ⟨5, rfl, .inr (.inl rfl)⟩
      · exact ⟨3, rfl, .inr (.inr rfl)⟩
    refine sg_set (j := 3) (by decide) (eg_ev (ev_min3 (ev_var (i := 3) rfl) (ev_var (i := 1) rfl) (ev_dlit3 hv (ev_var (i := 2) rfl)))) fun d hd => ?_
    subst hd
    have hsz : min (min s 5) v = 1 ∨ min (min s 5) v = 3 ∨ min (min s 5) v = 5 := by omega
    generalize min (min s 5) v = s at hsz
    show StG K g 0 _ [.un, .val (.int 5), .val (.int p), .val (.int s), .val (inD [0, 1]), .un, .un, .un] (n + 1 + 1) (n + 62) _
    refine sg_seqN (sgn_for (m := 12) (k := 5) (j := 5) (O := fun G' => ∃ f : List Int, CvOk (p, f) ∧ f.length ≤ 6 ∧ G' = [.un, .val (.int 5), .val (.int p), .val (.int s), .val (inD f), .un, .un, .un]) (by decide) (by decide) ev_int ⟨[0, 1], curve0 hp, by decide, rfl⟩ fun G' x n' ⟨f, cf, lf, hG⟩ hn' => ?_) fun G' ⟨f, cf, lf, hG⟩ => ?_
    · subst hG
      show StGN K g 0 _ [.un, .val (.int 5), .val (.int p), .val (.int s), .val (inD f), .val (.int x), .un, .un] n' (n' + 5) _
      refine sgn_setS (j := 6) (P := fun d => ∃ xs : List Int, d = inD (xs ++ [1]) ∧ (∀ x ∈ xs, 0 ≤ x ∧ x < p) ∧ (xs.length : Int) = s) (by decide) (eg_op (eg_lc (M := 5) (k := 1) (n0 := n') (P1 := fun d => d = .int s) (P := fun d => ∃ v : Int, d = .int v ∧ 0 ≤ v ∧ v < p) (by decide) (fun σ _ => List.getElem?_set_ne (by decide)) (by decide) (by decide) (eg_ev (ev_var (i := 3) rfl)) (fun d hd => ⟨s, hd, by omega, by omega⟩) fun x n'' hn'' => rnd (ev_var (i := 2) rfl) (by omega) (by have := hpm.le; omega) (by omega)) (eg_ev (d := inD [1]) (ev_pub (en_lst1 ev_int))) fun a b ⟨m, hm, xs, ha, hl, hx⟩ hb => ?_) fun d ⟨xs, hd, hx, hl⟩ => ?_
      · subst ha hb
        cases hm
        obtain ⟨l, rfl⟩ := ints_of (xs := xs) fun y hy => (hx y hy).imp fun v h => h.1
        rw [List.length_map] at hl
        refine ⟨inD (l ++ [1]), ?_, l, rfl, fun y hy => ?_, hl⟩
        · have := op_catD (K := K) (xs := l.map D.int) (ys := [D.int 1]) (by rw [List.length_map]; exact LMs (by show l.length + 1 ≤ _; omega))
          rw [show inD (l ++ [1]) = .lst (l.map D.int ++ [D.int 1]) by simp]
          exact this
        · obtain ⟨w, hw, w0, w1⟩ := hx (.int y) (List.mem_map.mpr ⟨y, hy, rfl⟩)
          cases hw
          exact ⟨w0, w1⟩
      · subst hd
        have nd : Nrm p (xs ++ [1]) := ⟨fun x h => by
          have := hpm.ge
          rcases List.mem_append.mp h with z | z
          · exact hx x z
          · simp at z; omega, fun _ => by rw [lastI_snoc]; decide⟩
        have hlen : (xs ++ [1]).length = xs.length + 1 := by simp
        have pl := pder_len (p := p) (a := xs ++ [1])
        show StGN K g 0 _ [.un, .val (.int 5), .val (.int p), .val (.int s), .val (inD f), .val (.int x), .val (inD (xs ++ [1])), .un] (n' + 5 * 1) (n' + 5) _
        refine sgn_if (P := decide ((f.length : Int) = 2) && decide (((lcF p (xs ++ [1]) (pder p (xs ++ [1]))).length : Int) = 1)) (j := 4) (by decide) (eb_and (eb_test (ev_eqI (ev_lenL (ev_var (i := 4) rfl).h) ev_int)) fun _ => eb_test (ev_eqI (ev_lenL (ev_call (ea3 (ev_var (i := 2) rfl) (ev_var (i := 6) rfl) (ev_call (ea2 (ev_var (i := 2) rfl) (ev_var (i := 6) rfl)) ⟨p, xs ++ [1], rfl, hpp, by omega, rfl⟩)) ⟨p, xs ++ [1], _, rfl, ⟨hpm, by omega, by omega, nd, trim_nrm hpp _⟩, rfl⟩).h) ev_int)) (ev_var (i := 6) rfl) (fun z => ?_) fun z => ?_
        · rw [Bool.and_eq_true, decide_eq_true_eq, decide_eq_true_eq] at z
          exact ⟨_, ⟨xs ++ [1], curve_ok hpm hx (by omega) (by omega), by omega, rfl⟩, .eq (.eq (.eq (.eq (.eq (.un (.un (.un .nil)))))))⟩
        · exact ⟨_, ⟨f, cf, lf, rfl⟩, .eq (.eq (.eq (.eq (.eq (.un (.un (.un .nil)))))))⟩
    · subst hG
      exact sg_ret (eg_ev (d := toldD (p, f)) (ev_tup (ea2 (ev_var (i := 2) rfl) (ev_var (i := 4) rfl)) (by show 2 ≤ sizeLine; decide))) (by omega) fun d hd => ⟨(p, f), rfl, cf, lf, hd⟩
abbrev s__law_triple : Stmt := top 87
abbrev nm__law_triple : List Str := ["generator", "told", "most", "p", "bottom"]
theorem sc__law_triple : FnScope nm__law_triple ["generator", "told", "most"] (defScope s__law_triple) := ⟨rfl, rfl, rfl, by decide +kernel, rfl, by decide +kernel, by decide +kernel⟩
theorem ok__law_triple (fx : Fx K mg) (c__law_poly : Cal P w K mg base 3 "_law_poly" (spG K 12 p__law_poly) []) (F : FunD K "_law_triple" "_law_triple" (defArgs s__law_triple) (defBody s__law_triple) (defScope s__law_triple) [] [] f fd) : FnOk P w K mg base CX0 4 f fd ["generator", "told", "most"] (spG K 36 p__law_triple) := by
  refine F.ok sc__law_triple ?_ (fun cdv A outer s H vs Q E hr h => ⟨_, PSs.nox ((pss_cons (ps_set (i := 3) sc__law_triple.nd rfl (by first | exact Or.inl rfl | exact Or.inr rfl) (pe_ix (ixt K) (pv 1) pe_int (fun _ _ => rfl)))
      (pss_cons (ps_set (i := 4) sc__law_triple.nd rfl (by first | exact Or.inl rfl | exact Or.inr rfl) (pe_c c__law_poly hr (by decide) rfl (pa_cons (pv 0) (pa_cons (pv 3) (pa_cons (pv 2) pa_nil)))))
      (pss_one (ps_ret (pe_tup (pa_cons (pe_c c__law_poly hr (by decide) rfl (pa_cons (pv 0) (pa_cons (pv 3) (pa_cons (pv 2) pa_nil)))) (pa_cons (pe_c c__law_poly hr (by decide) rfl (pa_cons (pv 0) (pa_cons (pv 3) (pa_cons (pv 2) pa_nil)))) (pa_cons (pe_ifExp (pt_cmpR (opNe K hr.units) (pv 4) (pe_lst pa_nil) (nomark _)) (pv 4) (pe_lst (pa_cons pe_int pa_nil))) pa_nil))))))))), ?_⟩)
  · exact spG_len (by rintro ds d ⟨_, _, _, rfl, _⟩; rfl)
  · refine run_gen (N := nm__law_triple) (fun g ds n hd hn => ?_) vs H Q E h
    obtain ⟨_, c, most, _, rfl, ⟨hp, m0, m1⟩, _⟩ := hd
    have hpg := hp.ge
    show StG K g 0 _ [.un, .val (toldD c), .val (.int most), .un, .un] n (n + 36) _
    refine sg_set (j := 3) (by decide) (eg_ev (ev_tix0 (a := .int c.1) (ev_var (i := 1) rfl))) fun d hd => ?_
    subst hd
    show StG K g 0 _ [.un, .val (toldD c), .val (.int most), .val (.int c.1), .un] n (n + 36) _
    have pl : ∀ {G : Ctx} {m : Nat}, G[3]? = some (.val (.int c.1)) → G[2]? = some (.val (.int most)) → m + 12 ≤ 2 ^ 30 → EvG K g 0 (tCall (spG K 12 p__law_poly) [] C8.E0 (tCons (tVar 0) (tCons (tVar 3) (tCons (tVar 2) tNil)))) G m (m + 12) (fun d => ∃ l : List Int, d = inD l ∧ Nrm c.1 l ∧ l.length ≤ 11) := fun g3 g2 hm =>
      (eg_call hm (ega_ev (ea2 (ev_var g3) (ev_var g2))) fun ds hds => ⟨inD [], c.1, most, [], hds, ⟨hp, m0, m1⟩, nrm_nil, by simp; omega, rfl⟩).imp fun d ⟨ds, hds, p, mo, l, hb, _, nl, hl, hd⟩ => by
        rw [hds] at hb
        cases hb
        exact ⟨l, hd, nl, by omega⟩
    refine sg_set (j := 4) (by decide) (pl rfl rfl (by omega)) fun d ⟨b, hb, nb, lb⟩ => ?_
    subst hb
    show StG K g 0 _ [.un, .val (toldD c), .val (.int most), .val (.int c.1), .val (inD b)] (n + 12) (n + 36) _
    refine sg_ret (eg_tup (ega_cons (pl rfl rfl (by omega)) fun _ _ => ega_cons (pl rfl rfl (by omega)) fun _ _ => ega_cons (eg_ev (d := inD (if b = [] then [1] else b)) (ev_if (eb_test (ev_ne0 (ev_var (i := 4) rfl).h)) (fun z => ?_) (fun z => ?_))) fun _ _ => ega_nil) fun ds hds => ?_) (by omega) fun d hd => ?_
    · have z' : b ≠ [] := by simpa using z
      rw [if_neg z']
      exact ev_var rfl
    · have z' : b = [] := by simpa using z
      rw [if_pos z']
      exact ev_pub (en_lst1 ev_int)
    · obtain ⟨_, _, rfl, _, _, _, rfl, _, _, _, rfl, _, rfl⟩ := hds
      show 3 ≤ sizeLine
      decide
    · obtain ⟨ds, rfl, _, _, rfl, ⟨t, rfl, nt, lt⟩, _, _, rfl, ⟨s, rfl, ns, ls⟩, _, _, rfl, rfl, rfl⟩ := hd
      have nb' : Nrm c.1 (if b = [] then [1] else b) := by
        split
        · exact one_nrm hp
        · exact nb
      have ne' : (if b = [] then [1] else b) ≠ [] := by
        split
        · simp
        · assumption
      have lb' : (if b = [] then [1] else b).length ≤ 11 := by
        split
        · simp
        · exact lb
      exact ⟨c, most, (t, s, if b = [] then [1] else b), rfl, ⟨hp, m0, m1⟩, ⟨nt, ns, nb', ne', lt, ls, lb'⟩, rfl⟩
end
end Cw
set_option maxHeartbeats 4000000
namespace Cw
open PySem PySem.Spec PyProof.Rows L2
open C8 (Cal Met Mak pe_c pe_mk pe_mt pe_mt0 pe_gc InsC call_isC)
section
variable {P : Program} {w : World} {K : Fg} {mg : Str → Option Value} {base : Heap} {f : Addr} {fd : FuncData}
abbrev s__law_right : Stmt := top 97
abbrev nm__law_right : List Str := ["generator", "told", "one", "other", "rise", "function", "source", "kept", "first"]
theorem sc__law_right : FnScope nm__law_right ["generator"] (defScope s__law_right) := ⟨rfl, rfl, rfl, by decide +kernel, rfl, by decide +kernel, by decide +kernel⟩
theorem ok__law_right (fx : Fx K mg) (c__law_curve : Cal P w K mg base 5 "_law_curve" (spG K 62 p__law_curve) []) (c_slope : Cal P w K mg base 11 "slope" (spD K (p_slope K)) []) (c_whose_slope : Cal P w K mg base 13 "whose_slope" (spD K (p_whose_slope K)) []) (c__law_seen : Cal P w K mg base 2 "_law_seen" (spD K (p__law_seen K)) []) (c__law_made : Cal P w K mg base 10 "_law_made" (spD K (p__law_made K)) []) (c_sum_of : Cal P w K mg base 11 "sum_of" (spD K (p_sum_of K)) []) (c_parts : Cal P w K mg base 11 "parts" (spD K (p_parts K)) []) (c__law_triple : Cal P w K mg base 4 "_law_triple" (spG K 36 p__law_triple) []) (c__law_asked : Cal P w K mg base 14 "_law_asked" (spD K (p__law_asked K)) []) (c_less_of : Cal P w K mg base 12 "less_of" (spD K (p_less_of K)) []) (c_power_of_functions : Cal P w K mg base 12 "power_of_functions" (spD K (p_power_of_fn K)) []) (m_Function___eq__ : Met P w K mg base 2 (He.ga K "Function") "__eq__" (spD K (p_Function___eq__ K)) []) (F : FunD K "_law_right" "_law_right" (defArgs s__law_right) (defBody s__law_right) (defScope s__law_right) [] [] f fd) : FnOk P w K mg base CX0 15 f fd ["generator"] (spG K 134 p__law_right) := by
  refine F.ok sc__law_right ?_ (fun cdv A outer s H vs Q E hr h => ⟨_, PSs.nox ((pss_cons (ps_set (i := 1) sc__law_right.nd rfl (by first | exact Or.inl rfl | exact Or.inr rfl) (pe_c c__law_curve hr (by decide) rfl (pa_cons (pv 0) (pa_cons pe_int pa_nil))))
      (pss_cons (ps_par (i := 2) (j := 3) (by rfl) sc__law_right.nd rfl rfl (by decide) rfl rfl (pa_cons (pe_c c__law_made hr (by decide) rfl (pa_cons (pv 1) (pa_cons (pe_c c__law_triple hr (by decide) rfl (pa_cons (pv 0) (pa_cons (pv 1) (pa_cons pe_int pa_nil)))) pa_nil))) (pa_cons (pe_c c__law_made hr (by decide) rfl (pa_cons (pv 1) (pa_cons (pe_c c__law_triple hr (by decide) rfl (pa_cons (pv 0) (pa_cons (pv 1) (pa_cons pe_int pa_nil)))) pa_nil))) pa_nil)) (by rfl))
      (pss_cons (ps_set (i := 4) sc__law_right.nd rfl (by first | exact Or.inl rfl | exact Or.inr rfl) (pe_c c_slope hr (by decide) rfl (pa_cons (pv 2) pa_nil)))
      (pss_cons (ps_for PassesOwn.never rfl (pil K (pe_lst (pa_cons (pv 2) (pa_cons (pv 3) (pa_cons (pv 4) (pa_cons (pe_c c_slope hr (by decide) rfl (pa_cons (pv 3) pa_nil)) (pa_cons (pe_c c_sum_of hr (by decide) rfl (pa_cons (pv 4) (pa_cons (pv 3) pa_nil))) (pa_cons (pe_c c_sum_of hr (by decide) rfl (pa_cons (pv 4) (pa_cons (pe_c c_slope hr (by decide) rfl (pa_cons (pv 3) pa_nil)) pa_nil))) pa_nil)))))))) (pg_name (i := 5) sc__law_right.nd rfl (by first | exact Or.inl rfl | exact Or.inr rfl))
      (pss_one (ps_if (pt_not (pt_val (pe_c c__law_asked hr (by decide) rfl (pa_cons (pv 1) (pa_cons (pv 5) pa_nil))))) (pss_one (ps_ret pe_bl)) pss_nil)))
      (pss_cons (ps_set (i := 6) sc__law_right.nd rfl (by first | exact Or.inl rfl | exact Or.inr rfl) (pe_c c_whose_slope hr (by decide) rfl (pa_cons (pv 4) pa_nil)))
      (pss_cons (ps_set (i := 7) sc__law_right.nd rfl (by first | exact Or.inl rfl | exact Or.inr rfl) (pe_c c__law_seen hr (by decide) rfl (pa_cons (pv 6) pa_nil)))
      (pss_cons (ps_expr (pe_c c_whose_slope hr (by decide) rfl (pa_cons (pe_c c_sum_of hr (by decide) rfl (pa_cons (pv 4) (pa_cons (pe_c c_slope hr (by decide) rfl (pa_cons (pv 3) pa_nil)) pa_nil))) pa_nil)))
      (pss_cons (ps_if (pt_cmpR (opNe K hr.units) (pe_c c__law_seen hr (by decide) rfl (pa_cons (pv 6) pa_nil)) (pv 7) (nomark _)) (pss_one (ps_ret pe_bl)) pss_nil)
      (pss_cons (ps_set (i := 8) sc__law_right.nd rfl (by first | exact Or.inl rfl | exact Or.inr rfl) (pe_ix (ixl K) (pe_c c_parts hr (by decide) rfl (pa_cons (pv 2) pa_nil)) pe_int (fun _ _ => rfl)))
      (pss_one (ps_ret (pe_cmpR op_isBl (pe_cmpR (opOwn m_Function___eq__ hr (by decide)) (pe_c c_whose_slope hr (by decide) rfl (pa_cons (pv 4) pa_nil)) (pe_c c_less_of hr (by decide) rfl (pa_cons (pv 2) (pa_cons (pe_c c_power_of_functions hr (by decide) rfl (pa_cons (pv 8) (pa_cons (pe_ix (ixt K) (pv 1) pe_int (fun _ _ => rfl)) pa_nil))) pa_nil))) (nomark _)) pe_bl (nomark _)))))))))))))), ?_⟩)
  · exact spG_len (by rintro ds d ⟨rfl, _⟩; rfl)
  · refine run_gen (N := nm__law_right) (fun g ds n hd hn => ?_) vs H Q E h
    obtain ⟨_, rfl, _⟩ := hd
    show StG K g 0 _ [.un, .un, .un, .un, .un, .un, .un, .un, .un] n (n + 134) _
    refine sg_set (j := 1) (P := fun d => ∃ c : Cur, d = toldD c ∧ CvOk c) (by decide) ((eg_call (by omega) (ega_ev (ea1 ev_int)) fun ds hds => ⟨toldD (3, [0, 1]), (3, [0, 1]), hds, curve0 (.inl rfl), by decide, rfl⟩).imp fun d ⟨ds, hds, c, _, cv, _, hd⟩ => ⟨c, hd, cv⟩) fun d ⟨c, hd, cv⟩ => ?_
    subst hd
    have made : ∀ {G : Ctx} {m : Nat} {v : Int}, G[1]? = some (.val (toldD c)) → 0 ≤ v → v ≤ 10 → m + 36 ≤ 2 ^ 30 → EvG K g 0 (tCall (spD K (p__law_made K)) [] C8.E0 (tCons (tVar 1) (tCons (tCall (spG K 36 p__law_triple) [] C8.E0 (tCons (tVar 0) (tCons (tVar 1) (tCons (tC (.int v)) tNil)))) tNil))) G m (m + 36) (fun d => ∃ T : Tri, d = fnD K c T ∧ FnIn c T 12) := fun g1 v0 v1 hm =>
      eg_callD (ega_cons (eg_ev (ev_var g1)) fun d hd => ega_cons (eg_call hm (ega_ev (ea2 (ev_var g1) ev_int)) fun ds hds => ⟨triD ([], [], [1]), c, _, ([], [], [1]), hds, ⟨cv.pm, v0, v1⟩, ⟨nrm_nil, nrm_nil, one_nrm cv.pm, by simp, by simp, by simp, by simp⟩, rfl⟩) fun _ _ => ega_nil) fun ds hds => by
        obtain ⟨_, _, rfl, h1, _, _, rfl, ⟨ds2, h2, c2, mo, T, h3, _, hT, rfl⟩, rfl⟩ := hds
        subst h1
        rw [h2] at h3
        obtain ⟨e1, e2⟩ : toldD c = toldD c2 ∧ D.int _ = D.int mo := by
          have := List.cons.inj h3
          exact ⟨this.1, (List.cons.inj this.2).1⟩
        have ec : c = c2 := told_inj e1
        subst ec
        refine ⟨_, ⟨c, T, rfl, ⟨cv, hT.n1, hT.n2, hT.n3, hT.ne, Nat.le_trans hT.sz.1 (by decide), Nat.le_trans hT.sz.2.1 (by decide), Nat.le_trans hT.sz.2.2 (by decide)⟩, rfl⟩, _, rfl, least_in cv hT.n1 hT.n2 hT.n3 hT.ne hT.sz.1 hT.sz.2.1 hT.sz.2.2⟩
    show StG K g 0 _ [.un, .val (toldD c), .un, .un, .un, .un, .un, .un, .un] (n + 62) (n + 134) _
    refine sg_par (j := 2) (l := 3) (by decide) (by decide) (made rfl (by decide) (by decide) (by omega)) (made rfl (by decide) (by decide) (by omega)) fun d e ⟨T, hd, hT⟩ ⟨U, he, hU⟩ => ?_
    subst hd he
    have hr := fSlope_in cv hT
    have hs := fSlope_in cv hU
    have hp1 := fPlus_in cv hr hU
    have hp2 := fPlus_in cv hr hs
    have hn := slope_last cv hT.ls
    have hP := fPart_in cv hT 0
    have hR := fRaised_in (n := c.1) cv (hP.mono (by decide)) (by have := cv.pm.pos; omega) (by have := cv.pm.le; omega)
    have hE := slope_src cv hT.ls
    show StG K g 0 _ [.un, .val (toldD c), .val (fnD K c T), .val (fnD K c U), .un, .un, .un, .un, .un] (n + 62 + 36 + 36) (n + 134) _
    refine StG.imp (sg_rest (d := .bl true) (by omega) ?_) fun d hd => ⟨rfl, hd⟩
    refine st_seq (st_set (ev_call (ea1 (ev_var (i := 2) rfl)) ⟨c, T, rfl, ⟨cv, hT.mono (by decide)⟩, rfl⟩)) ?_
    show StD K _ [.un, .val (toldD c), .val (fnD K c T), .val (fnD K c U), .val (fnD K c (fSlope c T)), .un, .un, .un, .un] _
    refine st_seq (st_for (S := Unit) (as := [T, U, fSlope c T, fSlope c U, fPlus c (fSlope c T) U, fPlus c (fSlope c T) (fSlope c U)]) (enc := fnD K c) (Gs := fun _ => [.un, .val (toldD c), .val (fnD K c T), .val (fnD K c U), .val (fnD K c (fSlope c T)), .un, .un, .un, .un]) (step := fun u _ => u) (s0 := ()) (it_list (ev_pub (en_lst (ea_cons (ev_var (i := 2) rfl) (ea_cons (ev_var (i := 3) rfl) (ea4 (ev_var (i := 4) rfl) (ev_call (ea1 (ev_var (i := 3) rfl)) ⟨c, U, rfl, ⟨cv, hU.mono (by decide)⟩, rfl⟩) (ev_call (ea2 (ev_var (i := 4) rfl) (ev_var (i := 3) rfl)) ⟨c, fSlope c T, U, rfl, ⟨cv, hr.mono (by decide), hU.mono (by decide)⟩, rfl⟩) (ev_call (ea2 (ev_var (i := 4) rfl) (ev_call (ea1 (ev_var (i := 3) rfl)) ⟨c, U, rfl, ⟨cv, hU.mono (by decide)⟩, rfl⟩)) ⟨c, fSlope c T, fSlope c U, rfl, ⟨cv, hr.mono (by decide), hs.mono (by decide)⟩, rfl⟩)))) (by show 6 ≤ sizeLine; decide)))) fun pre V post e => ⟨_, _, tg_name, ?_⟩) ?_
    · have hm := mem_mid e
      have hV : FnIn c V 200 := by
        simp only [List.mem_cons, List.not_mem_nil, or_false] at hm
        rcases hm with rfl | rfl | rfl | rfl | rfl | rfl
        · exact hT.mono (by decide)
        · exact hU.mono (by decide)
        · exact hr.mono (by decide)
        · exact hs.mono (by decide)
        · exact hp1.mono (by decide)
        · exact hp2.mono (by decide)
      exact StD.lp (st_if (x := false) (eb_not (x := true) (eb_val (ev_call (d := .bl true) (ea2 (ev_var (i := 1) rfl) (ev_var (i := 5) rfl)) ⟨c, V, rfl, ⟨cv, hV⟩, rfl⟩))) (fun h => nomatch h) fun _ => st_nilW (.eq (.eq (.eq (.eq (.eq (.un (.eq (.eq (.eq .nil))))))))))
    refine st_seq (st_set (ev_call (d := fnD K c (fSrc c (fSlope c T))) (ea1 (ev_var (i := 4) rfl)) ⟨c, fSlope c T, rfl, ⟨cv, hr.mono (by decide)⟩, by rw [if_pos hn]⟩)) ?_
    refine st_seq (st_set (ev_call (ea1 (ev_var (i := 6) rfl)) ⟨c, fSrc c (fSlope c T), rfl, trivial, rfl⟩)) ?_
    refine st_seq (st_drop (ev_call (ea1 (ev_call (ea2 (ev_var (i := 4) rfl) (ev_call (ea1 (ev_var (i := 3) rfl)) ⟨c, U, rfl, ⟨cv, hU.mono (by decide)⟩, rfl⟩)) ⟨c, fSlope c T, fSlope c U, rfl, ⟨cv, hr.mono (by decide), hs.mono (by decide)⟩, rfl⟩)) ⟨c, _, rfl, ⟨cv, hp2.mono (by decide)⟩, rfl⟩)) ?_
    refine st_ifS (x := false) ((eb_test (ev_neL (a := fSrc c (fSlope c T)) (b := fSrc c (fSlope c T)) like_tri (by decide) (ev_call (ea1 (ev_var (i := 6) rfl)) ⟨c, fSrc c (fSlope c T), rfl, trivial, rfl⟩).h (ev_var (i := 7) rfl).h)).cast (by simp)) (fun h => nomatch h) fun _ => st_seqN ?_
    refine st_seq (st_set (ev_ixL (parts_firstE cv.pos (fnD K c)) (ev_call (ea1 (ev_var (i := 2) rfl)) ⟨c, T, rfl, ⟨cv, hT.mono (by decide)⟩, rfl⟩) ev_int)) ?_
    exact st_ret ((ev_isT (ev_own (ev_call (d := fnD K c (fSrc c (fSlope c T))) (ea1 (ev_var (i := 4) rfl)) ⟨c, fSlope c T, rfl, ⟨cv, hr.mono (by decide)⟩, by rw [if_pos hn]⟩) (ev_call (d := fnD K c (fSrc c (fSlope c T))) (ea2 (ev_var (i := 2) rfl) (ev_call (ea2 (ev_var (i := 8) rfl) (ev_tix0 (a := .int c.1) (ev_var (i := 1) rfl))) ⟨c, fPart c T 0, c.1, rfl, ⟨cv, hP.mono (by decide), by have := cv.pm.pos; omega, by have := cv.pm.le; omega⟩, rfl⟩)) ⟨c, T, fRaised c (fPart c T 0) c.1, rfl, ⟨cv, hT.mono (by decide), hR.mono (by decide)⟩, by rw [hE]⟩) ⟨c, _, rfl, trivial, rfl⟩)).cast (by simp))
abbrev s_law : Stmt := top 98
abbrev nm_law : List Str := ["script", "index", "wide", "bent", "back", "y"]
theorem sc_law : FnScope nm_law ["script"] (defScope s_law) := ⟨rfl, rfl, rfl, by decide +kernel, rfl, by decide +kernel, by decide +kernel⟩
theorem ok_law (fx : Fx K mg) (c__law_right : Cal P w K mg base 15 "_law_right" (spG K 134 p__law_right) []) (c_whose_slope : Cal P w K mg base 13 "whose_slope" (spD K (p_whose_slope K)) []) (c_less_of : Cal P w K mg base 12 "less_of" (spD K (p_less_of K)) []) (c__law_seen : Cal P w K mg base 2 "_law_seen" (spD K (p__law_seen K)) []) (c__law_generator : Cal P w K mg base 2 "_law_generator" (spN K p__law_generator) []) (c_slope : Cal P w K mg base 11 "slope" (spD K (p_slope K)) []) (c_power_of_functions : Cal P w K mg base 12 "power_of_functions" (spD K (p_power_of_fn K)) []) (c_parts : Cal P w K mg base 11 "parts" (spD K (p_parts K)) []) (m_Function___eq__ : Met P w K mg base 2 (He.ga K "Function") "__eq__" (spD K (p_Function___eq__ K)) []) (m_Function : Mak P w K mg base 7 "Function" (He.ga K "Function") (spI K (He.ga K "Function") (p_Function___init__ K)) []) (m_Curve : Mak P w K mg base 7 "Curve" (He.ga K "Curve") (spI K (He.ga K "Curve") (p_Curve___init__ K)) []) (F : FunD K "law" "law" (defArgs s_law) (defBody s_law) (defScope s_law) [] [] f fd) : FnOk P w K mg base CX0 16 f fd ["script"] (spD K p_law) := by
  refine F.ok sc_law (spD_len (n := 1) ?_) (fun cdv A outer s H vs Q E hr h => ⟨_, PSs.nox ((pss_cons (ps_for PassesOwn.never rfl (pi_range1 (by rfl) fx.b_range (pa_cons pe_int pa_nil)) (pg_name (i := 1) sc_law.nd rfl (by first | exact Or.inl rfl | exact Or.inr rfl))
      (pss_one (ps_if (pt_not (pt_val (pe_c c__law_right hr (by decide) rfl (pa_cons (pe_c c__law_generator hr (by decide) rfl (pa_cons (pv 0) (pa_cons (pv 1) pa_nil))) pa_nil)))) (pss_one (ps_ret pe_bl)) pss_nil)))
      (pss_cons (ps_set (i := 2) sc_law.nd rfl (by first | exact Or.inl rfl | exact Or.inr rfl) (pe_mk m_Function hr (by decide) rfl (pa_cons (pe_mk m_Curve hr (by decide) rfl (pa_cons pe_int (pa_cons (pe_lst (pa_cons pe_int (pa_cons pe_int (pa_cons pe_int (pa_cons pe_int pa_nil))))) pa_nil))) (pa_cons (pe_lst (pa_cons pe_int (pa_cons pe_int (pa_cons pe_int (pa_cons pe_int pa_nil))))) (pa_cons (pe_lst (pa_cons pe_int (pa_cons pe_int pa_nil))) (pa_cons (pe_lst (pa_cons pe_int pa_nil)) pa_nil))))))
      (pss_cons (ps_if (pt_cmpR op_notBl (pe_cmpR (opOwn m_Function___eq__ hr (by decide)) (pe_c c_whose_slope hr (by decide) rfl (pa_cons (pe_c c_slope hr (by decide) rfl (pa_cons (pv 2) pa_nil)) pa_nil)) (pe_c c_less_of hr (by decide) rfl (pa_cons (pv 2) (pa_cons (pe_c c_power_of_functions hr (by decide) rfl (pa_cons (pe_ix (ixl K) (pe_c c_parts hr (by decide) rfl (pa_cons (pv 2) pa_nil)) pe_int (fun _ _ => rfl)) (pa_cons pe_int pa_nil))) pa_nil))) (nomark _)) pe_bl (nomark _)) (pss_one (ps_ret pe_bl)) pss_nil)
      (pss_cons (ps_set (i := 3) sc_law.nd rfl (by first | exact Or.inl rfl | exact Or.inr rfl) (pe_mk m_Curve hr (by decide) rfl (pa_cons pe_int (pa_cons (pe_lst (pa_cons pe_int (pa_cons pe_int (pa_cons pe_int (pa_cons pe_int pa_nil))))) pa_nil))))
      (pss_cons (ps_par (i := 4) (j := 5) (by rfl) sc_law.nd rfl rfl (by decide) rfl rfl (pa_cons (pe_mk m_Function hr (by decide) rfl (pa_cons (pv 3) (pa_cons (pe_lst pa_nil) (pa_cons (pe_lst (pa_cons pe_int pa_nil)) (pa_cons (pe_lst (pa_cons pe_int (pa_cons pe_int (pa_cons pe_int (pa_cons pe_int pa_nil))))) pa_nil))))) (pa_cons (pe_mk m_Function hr (by decide) rfl (pa_cons (pv 3) (pa_cons (pe_lst pa_nil) (pa_cons (pe_lst (pa_cons pe_int pa_nil)) (pa_cons (pe_lst (pa_cons pe_int pa_nil)) pa_nil))))) pa_nil)) (by rfl))
      (pss_cons (ps_if (PW.pt (pw_or (pt_cmpR (opNe K hr.units) (pe_c c__law_seen hr (by decide) rfl (pa_cons (pe_c c_whose_slope hr (by decide) rfl (pa_cons (pv 4) pa_nil)) pa_nil)) (pe_tup (pa_cons (pe_lst pa_nil) (pa_cons (pe_lst (pa_cons pe_int (pa_cons pe_int (pa_cons pe_int pa_nil)))) (pa_cons (pe_lst (pa_cons pe_int (pa_cons pe_int (pa_cons pe_int (pa_cons pe_int (pa_cons pe_int pa_nil)))))) pa_nil)))) (nomark _)) (pw_or1 (pt_cmpR op_notN (pe_c c_whose_slope hr (by decide) rfl (pa_cons (pv 5) pa_nil)) pe_non (nomark _))))) (pss_one (ps_ret pe_bl)) pss_nil)
      (pss_one (ps_ret (pe_and (pe_cmpR (opEq K hr.units) (pe_c c__law_seen hr (by decide) rfl (pa_cons (pe_c c_whose_slope hr (by decide) rfl (pa_cons (pe_mk m_Function hr (by decide) rfl (pa_cons (pv 3) (pa_cons (pe_lst pa_nil) (pa_cons (pe_lst pa_nil) (pa_cons (pe_lst (pa_cons pe_int pa_nil)) pa_nil))))) pa_nil)) pa_nil)) (pe_tup (pa_cons (pe_lst pa_nil) (pa_cons (pe_lst pa_nil) (pa_cons (pe_lst (pa_cons pe_int pa_nil)) pa_nil)))) (nomark _)) (pe_one (pe_cmpR (opEq K hr.units) (pe_c c__law_seen hr (by decide) rfl (pa_cons (pe_c c_whose_slope hr (by decide) rfl (pa_cons (pe_mk m_Function hr (by decide) rfl (pa_cons (pv 3) (pa_cons (pe_lst (pa_cons pe_int (pa_cons pe_int pa_nil))) (pa_cons (pe_lst pa_nil) (pa_cons (pe_lst (pa_cons pe_int pa_nil)) pa_nil))))) pa_nil)) pa_nil)) (pe_tup (pa_cons (pe_lst (pa_cons pe_int (pa_cons pe_int (pa_cons pe_int pa_nil)))) (pa_cons (pe_lst pa_nil) (pa_cons (pe_lst (pa_cons pe_int pa_nil)) pa_nil)))) (nomark _))))))))))))), run_def (N := nm_law) (fun ds d p => ?_) vs H Q E h⟩)
  · rintro ds d ⟨_, rfl, _⟩; rfl
  ·
    obtain ⟨ns, rfl, _, rfl⟩ := p
    have cw : CvOk (11, [1, 1, 0, 1]) := ⟨by unfold Pm; decide, by unfold Nrm; decide, .inr (.inl rfl), rfl, by decide +kernel⟩
    have cb : CvOk (3, [0, 2, 0, 1]) := ⟨by unfold Pm; decide, by unfold Nrm; decide, .inr (.inl rfl), rfl, by decide +kernel⟩
    have hW : FnIn (11, [1, 1, 0, 1]) (leastT 11 [3, 0, 1, 4] [2, 1] [1]) 5 := least_in cw (by unfold Nrm; decide) (by unfold Nrm; decide) (by unfold Nrm; decide) (by decide) (by decide) (by decide) (by decide)
    have hB : FnIn (3, [0, 2, 0, 1]) (leastT 3 [] [1] [0, 2, 0, 1]) 5 := least_in cb (by unfold Nrm; decide) (by unfold Nrm; decide) (by unfold Nrm; decide) (by decide) (by decide) (by decide) (by decide)
    have hY : FnIn (3, [0, 2, 0, 1]) (leastT 3 [] [1] [1]) 5 := least_in cb (by unfold Nrm; decide) (by unfold Nrm; decide) (by unfold Nrm; decide) (by decide) (by decide) (by decide) (by decide)
    have hN : FnIn (3, [0, 2, 0, 1]) (leastT 3 [] [] [1]) 5 := least_in cb (by unfold Nrm; decide) (by unfold Nrm; decide) (by unfold Nrm; decide) (by decide) (by decide) (by decide) (by decide)
    have hM : FnIn (3, [0, 2, 0, 1]) (leastT 3 [2, 2] [] [1]) 5 := least_in cb (by unfold Nrm; decide) (by unfold Nrm; decide) (by unfold Nrm; decide) (by decide) (by decide) (by decide) (by decide)
    have hr := fSlope_in cw hW
    have hn := slope_last cw hW.ls
    have hP := fPart_in cw hW 0
    have hR := fRaised_in (n := 11) cw (hP.mono (by decide)) (by decide) (by decide)
    have hE := slope_src cw hW.ls
    show StD K _ [.val (.scr ns), .un, .un, .un, .un, .un] _
    refine st_seq (st_for (S := Unit) (as := rangeI 0 1) (enc := D.int) (Gs := fun _ => [.val (.scr ns), .un, .un, .un, .un, .un]) (step := fun u _ => u) (s0 := ()) (it_rng1 (n := 1) (by decide) ev_int) fun pre x post e => ⟨_, _, tg_name, ?_⟩) ?_
    · have hx := rangeI_mem (mem_mid e)
      have hx0 : x = 0 := by omega
      subst hx0
      exact StD.lp (st_if (x := false) (eb_not (x := true) (eb_val (ev_gen (d := .bl true) (by decide) (ea2 (ev_var (i := 0) rfl) (ev_var (i := 1) rfl)) ⟨[.int 0, .int 0, .int 0], ns, 0, 0, rfl, rfl, by decide, by decide, by decide⟩ ⟨rfl, rfl⟩ fun e he => he.2))) (fun h => nomatch h) fun _ => st_nilW (.eq (.un (.eq (.eq (.eq (.eq .nil)))))))
    refine st_seq (st_set (ev_make (ea4 (ev_make (ea2 ev_int (ev_pub (en_lst (ea4 ev_int ev_int ev_int ev_int) (by show 4 ≤ sizeLine; decide)))) ⟨11, [1, 1, 0, 1], rfl, cw, rfl⟩) (ev_pub (en_lst (ea4 ev_int ev_int ev_int ev_int) (by show 4 ≤ sizeLine; decide))) (ev_pub (en_lst (ea2 ev_int ev_int) (by show 2 ≤ sizeLine; decide))) (ev_pub (en_lst1 ev_int))) ⟨(11, [1, 1, 0, 1]), [3, 0, 1, 4], [2, 1], [1], rfl, ⟨cw, by unfold Nrm; decide, by unfold Nrm; decide, by unfold Nrm; decide, by decide, by decide, by decide, by decide⟩, rfl⟩)) ?_
    show StD K _ [.val (.scr ns), .un, .val (fnD K (11, [1, 1, 0, 1]) (leastT 11 [3, 0, 1, 4] [2, 1] [1])), .un, .un, .un] _
    refine st_ifS (x := false) ((eb_test (ev_notT (ev_own (ev_call (d := fnD K (11, [1, 1, 0, 1]) (fSrc (11, [1, 1, 0, 1]) (fSlope (11, [1, 1, 0, 1]) (leastT 11 [3, 0, 1, 4] [2, 1] [1])))) (ea1 (ev_call (ea1 (ev_var (i := 2) rfl)) ⟨_, _, rfl, ⟨cw, hW.mono (by decide)⟩, rfl⟩)) ⟨_, _, rfl, ⟨cw, hr.mono (by decide)⟩, by rw [if_pos hn]⟩) (ev_call (d := fnD K (11, [1, 1, 0, 1]) (fSrc (11, [1, 1, 0, 1]) (fSlope (11, [1, 1, 0, 1]) (leastT 11 [3, 0, 1, 4] [2, 1] [1])))) (ea2 (ev_var (i := 2) rfl) (ev_call (ea2 (ev_ixL (parts_firstE cw.pos (fnD K (11, [1, 1, 0, 1]))) (ev_call (ea1 (ev_var (i := 2) rfl)) ⟨_, _, rfl, ⟨cw, hW.mono (by decide)⟩, rfl⟩) ev_int) ev_int) ⟨_, _, 11, rfl, ⟨cw, hP.mono (by decide), by decide, by decide⟩, rfl⟩)) ⟨_, _, _, rfl, ⟨cw, hW.mono (by decide), hR.mono (by decide)⟩, by rw [hE]⟩) ⟨_, _, rfl, trivial, rfl⟩))).cast (by simp)) (fun h => nomatch h) fun _ => st_seqN ?_
    refine st_seq (st_set (ev_make (ea2 ev_int (ev_pub (en_lst (ea4 ev_int ev_int ev_int ev_int) (by show 4 ≤ sizeLine; decide)))) ⟨3, [0, 2, 0, 1], rfl, cb, rfl⟩)) ?_
    show StD K _ [.val (.scr ns), .un, .val (fnD K (11, [1, 1, 0, 1]) (leastT 11 [3, 0, 1, 4] [2, 1] [1])), .val (cvD K (3, [0, 2, 0, 1])), .un, .un] _
    refine st_seq (st_par (c1 := .val (fnD K (3, [0, 2, 0, 1]) (leastT 3 [] [1] [0, 2, 0, 1]))) (c2 := .val (fnD K (3, [0, 2, 0, 1]) (leastT 3 [] [1] [1]))) (em_v (ev_make (ea4 (ev_var (i := 3) rfl) (ev_pub en_lst0) (ev_pub (en_lst1 ev_int)) (ev_pub (en_lst (ea4 ev_int ev_int ev_int ev_int) (by show 4 ≤ sizeLine; decide)))) ⟨(3, [0, 2, 0, 1]), [], [1], [0, 2, 0, 1], rfl, ⟨cb, by unfold Nrm; decide, by unfold Nrm; decide, by unfold Nrm; decide, by decide, by decide, by decide, by decide⟩, rfl⟩)) (em_v (ev_make (ea4 (ev_var (i := 3) rfl) (ev_pub en_lst0) (ev_pub (en_lst1 ev_int)) (ev_pub (en_lst1 ev_int))) ⟨(3, [0, 2, 0, 1]), [], [1], [1], rfl, ⟨cb, by unfold Nrm; decide, by unfold Nrm; decide, by unfold Nrm; decide, by decide, by decide, by decide, by decide⟩, rfl⟩)) (fun h => nomatch h) (fun h => nomatch h) (by decide)) ?_
    have nB : nought (fLast (3, [0, 2, 0, 1]) (leastT 3 [] [1] [0, 2, 0, 1])) := by decide +kernel
    have sB : fSrc (3, [0, 2, 0, 1]) (leastT 3 [] [1] [0, 2, 0, 1]) = ([], [1, 0, 1], [1, 0, 1, 0, 1]) := by decide +kernel
    have nY : ¬ nought (fLast (3, [0, 2, 0, 1]) (leastT 3 [] [1] [1])) := by decide +kernel
    have nN : nought (fLast (3, [0, 2, 0, 1]) (leastT 3 [] [] [1])) := by decide +kernel
    have sN : fSrc (3, [0, 2, 0, 1]) (leastT 3 [] [] [1]) = ([], [], [1]) := by decide +kernel
    have nM : nought (fLast (3, [0, 2, 0, 1]) (leastT 3 [2, 2] [] [1])) := by decide +kernel
    have sM : fSrc (3, [0, 2, 0, 1]) (leastT 3 [2, 2] [] [1]) = ([0, 2, 1], [], [1]) := by decide +kernel
    refine st_ifS (x := false) (eb_or (x := false) (y := false) ((eb_test (ev_neL (a := (([], [1, 0, 1], [1, 0, 1, 0, 1]) : Tri)) (b := (([], [1, 0, 1], [1, 0, 1, 0, 1]) : Tri)) like_tri (by decide) (ev_call (d := triD ([], [1, 0, 1], [1, 0, 1, 0, 1])) (ea1 (ev_call (d := fnD K (3, [0, 2, 0, 1]) (fSrc (3, [0, 2, 0, 1]) (leastT 3 [] [1] [0, 2, 0, 1]))) (ea1 (ev_var (i := 4) rfl)) ⟨(3, [0, 2, 0, 1]), leastT 3 [] [1] [0, 2, 0, 1], rfl, ⟨cb, hB.mono (by decide)⟩, by rw [if_pos nB]⟩)) ⟨(3, [0, 2, 0, 1]), _, rfl, trivial, by rw [sB]⟩).h (EvD.h (d := triD ([], [1, 0, 1], [1, 0, 1, 0, 1])) (ev_tup (ea3 (ev_pub en_lst0) (ev_pub (en_lst (ea3 ev_int ev_int ev_int) (by show 3 ≤ sizeLine; decide))) (ev_pub (en_lst (ea_cons ev_int (ea4 ev_int ev_int ev_int ev_int)) (by show 5 ≤ sizeLine; decide)))) (by show 3 ≤ sizeLine; decide))))).cast (by simp)) fun _ => (eb_test (ev_notN (ev_call (d := .non) (ea1 (ev_var (i := 5) rfl)) ⟨(3, [0, 2, 0, 1]), leastT 3 [] [1] [1], rfl, ⟨cb, hY.mono (by decide)⟩, by rw [if_neg nY]⟩))).cast rfl) (fun h => nomatch h) fun _ => st_seqN ?_
    exact st_ret ((ev_andV (ev_eqL (a := (([], [], [1]) : Tri)) (b := (([], [], [1]) : Tri)) like_tri (by decide) (ev_call (d := triD ([], [], [1])) (ea1 (ev_call (d := fnD K (3, [0, 2, 0, 1]) (fSrc (3, [0, 2, 0, 1]) (leastT 3 [] [] [1]))) (ea1 (ev_make (ea4 (ev_var (i := 3) rfl) (ev_pub en_lst0) (ev_pub en_lst0) (ev_pub (en_lst1 ev_int))) ⟨(3, [0, 2, 0, 1]), [], [], [1], rfl, ⟨cb, by unfold Nrm; decide, by unfold Nrm; decide, by unfold Nrm; decide, by decide, by decide, by decide, by decide⟩, rfl⟩)) ⟨(3, [0, 2, 0, 1]), leastT 3 [] [] [1], rfl, ⟨cb, hN.mono (by decide)⟩, by rw [if_pos nN]⟩)) ⟨(3, [0, 2, 0, 1]), _, rfl, trivial, by rw [sN]⟩).h (EvD.h (d := triD ([], [], [1])) (ev_tup (ea3 (ev_pub en_lst0) (ev_pub en_lst0) (ev_pub (en_lst1 ev_int))) (by show 3 ≤ sizeLine; decide)))) fun _ => (ev_eqL (a := (([0, 2, 1], [], [1]) : Tri)) (b := (([0, 2, 1], [], [1]) : Tri)) like_tri (by decide) (ev_call (d := triD ([0, 2, 1], [], [1])) (ea1 (ev_call (d := fnD K (3, [0, 2, 0, 1]) (fSrc (3, [0, 2, 0, 1]) (leastT 3 [2, 2] [] [1]))) (ea1 (ev_make (ea4 (ev_var (i := 3) rfl) (ev_pub (en_lst (ea2 ev_int ev_int) (by show 2 ≤ sizeLine; decide))) (ev_pub en_lst0) (ev_pub (en_lst1 ev_int))) ⟨(3, [0, 2, 0, 1]), [2, 2], [], [1], rfl, ⟨cb, by unfold Nrm; decide, by unfold Nrm; decide, by unfold Nrm; decide, by decide, by decide, by decide, by decide⟩, rfl⟩)) ⟨(3, [0, 2, 0, 1]), leastT 3 [2, 2] [] [1], rfl, ⟨cb, hM.mono (by decide)⟩, by rw [if_pos nM]⟩)) ⟨(3, [0, 2, 0, 1]), _, rfl, trivial, by rw [sM]⟩).h (EvD.h (d := triD ([0, 2, 1], [], [1])) (ev_tup (ea3 (ev_pub (en_lst (ea3 ev_int ev_int ev_int) (by show 3 ≤ sizeLine; decide))) (ev_pub en_lst0) (ev_pub (en_lst1 ev_int))) (by show 3 ≤ sizeLine; decide))))).cast (by simp))
end
end Cw
set_option maxHeartbeats 0
namespace Cw
open PySem PySem.Spec PyProof.Rows L2
open C8 (Cal Met Mak InsC)
def d_is_whole : He.DefD := ⟨("is_whole", none), "is_whole", "is_whole", defArgs s_is_whole, defBody s_is_whole, defScope s_is_whole, [], []⟩
def d_is_between : He.DefD := ⟨("is_between", none), "is_between", "is_between", defArgs s_is_between, defBody s_is_between, defScope s_is_between, [], []⟩
def d_check_number : He.DefD := ⟨("check_number", none), "check_number", "check_number", defArgs s_check_number, defBody s_check_number, defScope s_check_number, [], []⟩
def d_check_prime : He.DefD := ⟨("check_prime", none), "check_prime", "check_prime", defArgs s_check_prime, defBody s_check_prime, defScope s_check_prime, [], []⟩
def d_is_poly_list : He.DefD := ⟨("is_poly_list", none), "is_poly_list", "is_poly_list", defArgs s_is_poly_list, defBody s_is_poly_list, defScope s_is_poly_list, [], []⟩
def d_check_poly : He.DefD := ⟨("check_poly", none), "check_poly", "check_poly", defArgs s_check_poly, defBody s_check_poly, defScope s_check_poly, [], []⟩
def d_inverse : He.DefD := ⟨("inverse", none), "inverse", "inverse", defArgs s_inverse, defBody s_inverse, defScope s_inverse, [], []⟩
def d_trimmed : He.DefD := ⟨("trimmed", none), "trimmed", "trimmed", defArgs s_trimmed, defBody s_trimmed, defScope s_trimmed, [], []⟩
def d_added : He.DefD := ⟨("added", none), "added", "added", defArgs s_added, defBody s_added, defScope s_added, [], []⟩
def d_negated : He.DefD := ⟨("negated", none), "negated", "negated", defArgs s_negated, defBody s_negated, defScope s_negated, [], []⟩
def d_lessened : He.DefD := ⟨("lessened", none), "lessened", "lessened", defArgs s_lessened, defBody s_lessened, defScope s_lessened, [], []⟩
def d_scaled : He.DefD := ⟨("scaled", none), "scaled", "scaled", defArgs s_scaled, defBody s_scaled, defScope s_scaled, [], []⟩
def d_multiplied : He.DefD := ⟨("multiplied", none), "multiplied", "multiplied", defArgs s_multiplied, defBody s_multiplied, defScope s_multiplied, [], []⟩
def d_power_of : He.DefD := ⟨("power_of", none), "power_of", "power_of", defArgs s_power_of, defBody s_power_of, defScope s_power_of, [], []⟩
def d_power_of_polys : He.DefD := ⟨("power_of_polys", none), "power_of", "power_of", defArgs s_power_of_polys, defBody s_power_of_polys, defScope s_power_of_polys, [], []⟩
def d_parted : He.DefD := ⟨("parted", none), "parted", "parted", defArgs s_parted, defBody s_parted, defScope s_parted, [], []⟩
def d_whole_part : He.DefD := ⟨("whole_part", none), "whole_part", "whole_part", defArgs s_whole_part, defBody s_whole_part, defScope s_whole_part, [], []⟩
def d_common_with : He.DefD := ⟨("common_with", none), "common_with", "common_with", defArgs s_common_with, defBody s_common_with, defScope s_common_with, [], []⟩
def d_common_of : He.DefD := ⟨("common_of", none), "common_of", "common_of", defArgs s_common_of, defBody s_common_of, defScope s_common_of, [], []⟩
def d_slope_of : He.DefD := ⟨("slope_of", none), "slope_of", "slope_of", defArgs s_slope_of, defBody s_slope_of, defScope s_slope_of, [], []⟩
def d_Curve___init__ : He.DefD := ⟨("Curve", some "__init__"), "__init__", "Curve.__init__", defArgs s_Curve___init__, defBody s_Curve___init__, defScope s_Curve___init__, [], []⟩
def d_Curve_prime : He.DefD := ⟨("Curve", some "prime"), "prime", "Curve.prime", defArgs s_Curve_prime, defBody s_Curve_prime, defScope s_Curve_prime, [], []⟩
def d_Curve_polynomial : He.DefD := ⟨("Curve", some "polynomial"), "polynomial", "Curve.polynomial", defArgs s_Curve_polynomial, defBody s_Curve_polynomial, defScope s_Curve_polynomial, [], []⟩
def d_Curve___eq__ : He.DefD := ⟨("Curve", some "__eq__"), "__eq__", "Curve.__eq__", defArgs s_Curve___eq__, defBody s_Curve___eq__, defScope s_Curve___eq__, [], []⟩
def d_is_curve_poly : He.DefD := ⟨("is_curve_poly", none), "is_curve_poly", "is_curve_poly", defArgs s_is_curve_poly, defBody s_is_curve_poly, defScope s_is_curve_poly, [], []⟩
def d_Function___init__ : He.DefD := ⟨("Function", some "__init__"), "__init__", "Function.__init__", defArgs s_Function___init__, defBody s_Function___init__, defScope s_Function___init__, [], []⟩
def d_Function_curve : He.DefD := ⟨("Function", some "curve"), "curve", "Function.curve", defArgs s_Function_curve, defBody s_Function_curve, defScope s_Function_curve, [], []⟩
def d_Function_top : He.DefD := ⟨("Function", some "top"), "top", "Function.top", defArgs s_Function_top, defBody s_Function_top, defScope s_Function_top, [], []⟩
def d_Function_side : He.DefD := ⟨("Function", some "side"), "side", "Function.side", defArgs s_Function_side, defBody s_Function_side, defScope s_Function_side, [], []⟩
def d_Function_bottom : He.DefD := ⟨("Function", some "bottom"), "bottom", "Function.bottom", defArgs s_Function_bottom, defBody s_Function_bottom, defScope s_Function_bottom, [], []⟩
def d_Function___eq__ : He.DefD := ⟨("Function", some "__eq__"), "__eq__", "Function.__eq__", defArgs s_Function___eq__, defBody s_Function___eq__, defScope s_Function___eq__, [], []⟩
def d_least_parts : He.DefD := ⟨("least_parts", none), "least_parts", "least_parts", defArgs s_least_parts, defBody s_least_parts, defScope s_least_parts, [], []⟩
def d_made : He.DefD := ⟨("made", none), "made", "made", defArgs s_made, defBody s_made, defScope s_made, [], []⟩
def d_parts_of : He.DefD := ⟨("parts_of", none), "parts_of", "parts_of", defArgs s_parts_of, defBody s_parts_of, defScope s_parts_of, [], []⟩
def d_is_nought : He.DefD := ⟨("is_nought", none), "is_nought", "is_nought", defArgs s_is_nought, defBody s_is_nought, defScope s_is_nought, [], []⟩
def d_plus : He.DefD := ⟨("plus", none), "plus", "plus", defArgs s_plus, defBody s_plus, defScope s_plus, [], []⟩
def d_opposite : He.DefD := ⟨("opposite", none), "opposite", "opposite", defArgs s_opposite, defBody s_opposite, defScope s_opposite, [], []⟩
def d_minus : He.DefD := ⟨("minus", none), "minus", "minus", defArgs s_minus, defBody s_minus, defScope s_minus, [], []⟩
def d_times : He.DefD := ⟨("times", none), "times", "times", defArgs s_times, defBody s_times, defScope s_times, [], []⟩
def d_norm_top : He.DefD := ⟨("norm_top", none), "norm_top", "norm_top", defArgs s_norm_top, defBody s_norm_top, defScope s_norm_top, [], []⟩
def d_back_of : He.DefD := ⟨("back_of", none), "back_of", "back_of", defArgs s_back_of, defBody s_back_of, defScope s_back_of, [], []⟩
def d_raised_to : He.DefD := ⟨("raised_to", none), "raised_to", "raised_to", defArgs s_raised_to, defBody s_raised_to, defScope s_raised_to, [], []⟩
def d_slope_by : He.DefD := ⟨("slope_by", none), "slope_by", "slope_by", defArgs s_slope_by, defBody s_slope_by, defScope s_slope_by, [], []⟩
def d_check_function : He.DefD := ⟨("check_function", none), "check_function", "check_function", defArgs s_check_function, defBody s_check_function, defScope s_check_function, [], []⟩
def d_check_both : He.DefD := ⟨("check_both", none), "check_both", "check_both", defArgs s_check_both, defBody s_check_both, defScope s_check_both, [], []⟩
def d_sum_of : He.DefD := ⟨("sum_of", none), "sum_of", "sum_of", defArgs s_sum_of, defBody s_sum_of, defScope s_sum_of, [], []⟩
def d_less_of : He.DefD := ⟨("less_of", none), "less_of", "less_of", defArgs s_less_of, defBody s_less_of, defScope s_less_of, [], []⟩
def d_power_of_functions : He.DefD := ⟨("power_of_functions", none), "power_of", "power_of", defArgs s_power_of, defBody s_power_of, defScope s_power_of, [], []⟩
def d_slope : He.DefD := ⟨("slope", none), "slope", "slope", defArgs s_slope, defBody s_slope, defScope s_slope, [], []⟩
def d_every : He.DefD := ⟨("every", none), "every", "every", defArgs s_every, defBody s_every, defScope s_every, [], []⟩
def d_tops_over : He.DefD := ⟨("tops_over", none), "tops_over", "tops_over", defArgs s_tops_over, defBody s_tops_over, defScope s_tops_over, [], []⟩
def d_parts_by : He.DefD := ⟨("parts_by", none), "parts_by", "parts_by", defArgs s_parts_by, defBody s_parts_by, defScope s_parts_by, [], []⟩
def d_stretched : He.DefD := ⟨("stretched", none), "stretched", "stretched", defArgs s_stretched, defBody s_stretched, defScope s_stretched, [], []⟩
def d_parts : He.DefD := ⟨("parts", none), "parts", "parts", defArgs s_parts, defBody s_parts, defScope s_parts, [], []⟩
def d_descent_by : He.DefD := ⟨("descent_by", none), "descent_by", "descent_by", defArgs s_descent_by, defBody s_descent_by, defScope s_descent_by, [], []⟩
def d_descent : He.DefD := ⟨("descent", none), "descent", "descent", defArgs s_descent, defBody s_descent, defScope s_descent, [], []⟩
def d_slope_source : He.DefD := ⟨("slope_source", none), "slope_source", "slope_source", defArgs s_slope_source, defBody s_slope_source, defScope s_slope_source, [], []⟩
def d_raised_source : He.DefD := ⟨("raised_source", none), "raised_source", "raised_source", defArgs s_raised_source, defBody s_raised_source, defScope s_raised_source, [], []⟩
def d_whose_slope : He.DefD := ⟨("whose_slope", none), "whose_slope", "whose_slope", defArgs s_whose_slope, defBody s_whose_slope, defScope s_whose_slope, [], []⟩
def d__law_hash : He.DefD := ⟨("_law_hash", none), "_law_hash", "_law_hash", defArgs s__law_hash, defBody s__law_hash, defScope s__law_hash, [], []⟩
def d__law_random : He.DefD := ⟨("_law_random", none), "_law_random", "_law_random", defArgs s__law_random, defBody s__law_random, defScope s__law_random, [], []⟩
def d__law_cell : He.DefD := ⟨("_law_cell", none), "_law_cell", "_law_cell", defArgs s__law_cell, defBody s__law_cell, defScope s__law_cell, [], []⟩
def d__law_generator : He.DefD := ⟨("_law_generator", none), "_law_generator", "_law_generator", defArgs s__law_generator, defBody s__law_generator, defScope s__law_generator, [], []⟩
def d__law_trim : He.DefD := ⟨("_law_trim", none), "_law_trim", "_law_trim", defArgs s__law_trim, defBody s__law_trim, defScope s__law_trim, [], []⟩
def d__law_add : He.DefD := ⟨("_law_add", none), "_law_add", "_law_add", defArgs s__law_add, defBody s__law_add, defScope s__law_add, [], []⟩
def d__law_scale : He.DefD := ⟨("_law_scale", none), "_law_scale", "_law_scale", defArgs s__law_scale, defBody s__law_scale, defScope s__law_scale, [], []⟩
def d__law_mul : He.DefD := ⟨("_law_mul", none), "_law_mul", "_law_mul", defArgs s__law_mul, defBody s__law_mul, defScope s__law_mul, [], []⟩
def d__law_power : He.DefD := ⟨("_law_power", none), "_law_power", "_law_power", defArgs s__law_power, defBody s__law_power, defScope s__law_power, [], []⟩
def d__law_back : He.DefD := ⟨("_law_back", none), "_law_back", "_law_back", defArgs s__law_back, defBody s__law_back, defScope s__law_back, [], []⟩
def d__law_rest : He.DefD := ⟨("_law_rest", none), "_law_rest", "_law_rest", defArgs s__law_rest, defBody s__law_rest, defScope s__law_rest, [], []⟩
def d__law_common : He.DefD := ⟨("_law_common", none), "_law_common", "_law_common", defArgs s__law_common, defBody s__law_common, defScope s__law_common, [], []⟩
def d__law_fall : He.DefD := ⟨("_law_fall", none), "_law_fall", "_law_fall", defArgs s__law_fall, defBody s__law_fall, defScope s__law_fall, [], []⟩
def d__law_poly : He.DefD := ⟨("_law_poly", none), "_law_poly", "_law_poly", defArgs s__law_poly, defBody s__law_poly, defScope s__law_poly, [], []⟩
def d__law_curve : He.DefD := ⟨("_law_curve", none), "_law_curve", "_law_curve", defArgs s__law_curve, defBody s__law_curve, defScope s__law_curve, [], []⟩
def d__law_of : He.DefD := ⟨("_law_of", none), "_law_of", "_law_of", defArgs s__law_of, defBody s__law_of, defScope s__law_of, [], []⟩
def d__law_triple : He.DefD := ⟨("_law_triple", none), "_law_triple", "_law_triple", defArgs s__law_triple, defBody s__law_triple, defScope s__law_triple, [], []⟩
def d__law_made : He.DefD := ⟨("_law_made", none), "_law_made", "_law_made", defArgs s__law_made, defBody s__law_made, defScope s__law_made, [], []⟩
def d__law_seen : He.DefD := ⟨("_law_seen", none), "_law_seen", "_law_seen", defArgs s__law_seen, defBody s__law_seen, defScope s__law_seen, [], []⟩
def d__law_nought : He.DefD := ⟨("_law_nought", none), "_law_nought", "_law_nought", defArgs s__law_nought, defBody s__law_nought, defScope s__law_nought, [], []⟩
def d__law_same : He.DefD := ⟨("_law_same", none), "_law_same", "_law_same", defArgs s__law_same, defBody s__law_same, defScope s__law_same, [], []⟩
def d__law_least : He.DefD := ⟨("_law_least", none), "_law_least", "_law_least", defArgs s__law_least, defBody s__law_least, defScope s__law_least, [], []⟩
def d__law_whole : He.DefD := ⟨("_law_whole", none), "_law_whole", "_law_whole", defArgs s__law_whole, defBody s__law_whole, defScope s__law_whole, [], []⟩
def d__law_slope : He.DefD := ⟨("_law_slope", none), "_law_slope", "_law_slope", defArgs s__law_slope, defBody s__law_slope, defScope s__law_slope, [], []⟩
def d__law_parts : He.DefD := ⟨("_law_parts", none), "_law_parts", "_law_parts", defArgs s__law_parts, defBody s__law_parts, defScope s__law_parts, [], []⟩
def d__law_asked : He.DefD := ⟨("_law_asked", none), "_law_asked", "_law_asked", defArgs s__law_asked, defBody s__law_asked, defScope s__law_asked, [], []⟩
def d__law_right : He.DefD := ⟨("_law_right", none), "_law_right", "_law_right", defArgs s__law_right, defBody s__law_right, defScope s__law_right, [], []⟩
def d_law : He.DefD := ⟨("law", none), "law", "law", defArgs s_law, defBody s_law, defScope s_law, [], []⟩
def fn0 : List He.DefD := [d_is_whole, d_is_between, d_check_number, d_check_prime, d_is_poly_list, d_check_poly, d_inverse, d_trimmed, d_added, d_negated, d_lessened, d_scaled, d_multiplied, d_power_of, d_power_of_polys, d_parted, d_whole_part, d_common_with, d_common_of, d_slope_of, d_Curve___init__, d_Curve_prime, d_Curve_polynomial, d_Curve___eq__, d_is_curve_poly, d_Function___init__, d_Function_curve, d_Function_top, d_Function_side, d_Function_bottom]
def fn1 : List He.DefD := [d_Function___eq__, d_least_parts, d_made, d_parts_of, d_is_nought, d_plus, d_opposite, d_minus, d_times, d_norm_top, d_back_of, d_raised_to, d_slope_by, d_check_function, d_check_both, d_sum_of, d_less_of, d_power_of_functions, d_slope, d_every, d_tops_over, d_parts_by, d_stretched, d_parts, d_descent_by, d_descent, d_slope_source, d_raised_source, d_whose_slope, d__law_hash]
def fn2 : List He.DefD := [d__law_random, d__law_cell, d__law_generator, d__law_trim, d__law_add, d__law_scale, d__law_mul, d__law_power, d__law_back, d__law_rest, d__law_common, d__law_fall, d__law_poly, d__law_curve, d__law_of, d__law_triple, d__law_made, d__law_seen, d__law_nought, d__law_same, d__law_least, d__law_whole, d__law_slope, d__law_parts, d__law_asked, d__law_right, d_law]
def fn : List He.DefD := fn0 ++ fn1 ++ fn2
def fa0 : List He.Fa := [.glo "is_whole", .glo "is_between", .glo "check_number", .glo "check_prime", .glo "is_poly_list", .glo "check_poly", .glo "inverse", .glo "trimmed", .glo "added", .glo "negated", .glo "lessened", .glo "scaled", .glo "multiplied", .glo "power_of", .glo "power_of_polys", .glo "parted", .glo "whole_part", .glo "common_with", .glo "common_of", .glo "slope_of", .glo "Curve", .mkr "Curve", .meth "Curve" "prime", .meth "Curve" "polynomial", .meth "Curve" "__eq__", .glo "is_curve_poly", .glo "Function", .mkr "Function", .meth "Function" "curve", .meth "Function" "top"]
def fa1 : List He.Fa := [.meth "Function" "side", .meth "Function" "bottom", .meth "Function" "__eq__", .glo "least_parts", .glo "made", .glo "parts_of", .glo "is_nought", .glo "plus", .glo "opposite", .glo "minus", .glo "times", .glo "norm_top", .glo "back_of", .glo "raised_to", .glo "slope_by", .glo "check_function", .glo "check_both", .glo "sum_of", .glo "less_of", .glo "power_of_functions", .glo "slope", .glo "every", .glo "tops_over", .glo "parts_by", .glo "stretched", .glo "parts", .glo "descent_by", .glo "descent", .glo "slope_source", .glo "raised_source"]
def fa2 : List He.Fa := [.glo "whose_slope", .glo "_law_hash", .glo "_law_random", .glo "_law_cell", .glo "_law_generator", .glo "_law_trim", .glo "_law_add", .glo "_law_scale", .glo "_law_mul", .glo "_law_power", .glo "_law_back", .glo "_law_rest", .glo "_law_common", .glo "_law_fall", .glo "_law_poly", .glo "_law_curve", .glo "_law_of", .glo "_law_triple", .glo "_law_made", .glo "_law_seen", .glo "_law_nought", .glo "_law_same", .glo "_law_least", .glo "_law_whole", .glo "_law_slope", .glo "_law_parts", .glo "_law_asked", .glo "_law_right", .glo "law", .free "ValueError"]
def fa3 : List He.Fa := [.free "abs", .free "bool", .free "enumerate", .free "int", .free "isinstance", .free "len", .free "list", .free "max", .free "min", .free "range", .free "repr", .free "sum", .free "super", .glo "PRIMES", .int "MOST_POWER" 60, .int "MOST_EXPONENT" 20, .cls "Curve", .noat "Curve" "_polynomial", .noat "Curve" "_prime", .cls "Function", .noat "Function" "_curve", .noat "Function" "_parts"]
def fa : List He.Fa := fa0 ++ fa1 ++ fa2 ++ fa3
def loose0 : List PySem.Str := ["_wall", "CurveError", "InvalidPrime", "InvalidPolynomial", "InvalidNumber", "InvalidCurve", "InvalidFunction", "Unlike", "PRIMES", "MOST_POWER", "is_whole", "is_between", "check_number", "check_prime", "is_poly_list", "check_poly", "inverse", "trimmed", "added", "negated", "lessened", "scaled", "multiplied", "power_of", "power_of_polys", "parted", "whole_part", "common_with", "common_of", "slope_of"]
def loose1 : List PySem.Str := ["Curve", "is_curve_poly", "MOST_EXPONENT", "Function", "least_parts", "made", "parts_of", "is_nought", "plus", "opposite", "minus", "times", "norm_top", "back_of", "raised_to", "slope_by", "check_function", "check_both", "sum_of", "less_of", "power_of_functions", "slope", "every", "tops_over", "parts_by", "stretched", "parts", "descent_by", "descent", "slope_source"]
def loose2 : List PySem.Str := ["raised_source", "whose_slope", "_law_hash", "_law_random", "_law_cell", "_law_generator", "_law_trim", "_law_add", "_law_scale", "_law_mul", "_law_power", "_law_back", "_law_rest", "_law_common", "_law_fall", "_law_poly", "_law_curve", "_law_of", "_law_triple", "_law_made", "_law_seen", "_law_nought", "_law_same", "_law_least", "_law_whole", "_law_slope", "_law_parts", "_law_asked", "_law_right"]
def loose : List PySem.Str := loose0 ++ loose1 ++ loose2
def insB (K : Fg) (x : Str) : Bool := He.eqO (PySem.W.findIn K (.ref (He.ga K x)) "__class__") (some (some (.builtin "object.__class__"))) && (decide (PySem.W.specialIn K (.builtin "object.__class__") "__get__" = some (some (.builtin "getset_descriptor.__get__"))) && (decide (PySem.W.takesIn K (.builtin "object.__class__") = some true) && (decide (PySem.W.mroIn K (He.ga K x) (.type "object") = some true) && decide (PySem.W.kitOne K (.ref (He.ga K x)) (.ref (He.ga K x)) = some true))))
theorem insB_ok {K : Fg} {x : Str} (c : Cls K (He.ga K x)) (h : insB K x = true) : InsC K (He.ga K x) := by
  obtain ⟨h1, h⟩ := He.ba h
  obtain ⟨h2, h⟩ := He.ba h
  obtain ⟨h3, h⟩ := He.ba h
  obtain ⟨h4, h5⟩ := He.ba h
  exact ⟨c, He.eqO_ok h1, of_decide_eq_true h2, of_decide_eq_true h3, of_decide_eq_true h4, of_decide_eq_true h5⟩
def xb (K : Fg) : Bool := He.tupB K "PRIMES" [.int 3, .int 5, .int 7, .int 11, .int 13] && (insB K "Curve" && (insB K "Function"))
def frL {α : Type} : List Addr → (List Addr → α) → α
  | [], k => k []
  | a :: r, k => HandSHeadRun.frNat a fun a => frL r fun r => k (a :: r)
theorem frL_eq {α : Type} : ∀ (l : List Addr) (k : List Addr → α), frL l k = k l
  | [], k => rfl
  | a :: r, k => by
    show HandSHeadRun.frNat a (fun a => frL r fun r => k (a :: r)) = _
    rw [HandSHeadRun.frNat_eq, frL_eq r]
def lvl (g : Addr → Option Obj) (as : List Addr) : List Addr := as.flatMap fun a => match g a with
  | some o => He.refsD o
  | none => []
/-- what the names reach, level by level -/
def asL (g : Addr → Option Obj) : List Addr := frL (lvl g [mainGlobals]) fun l1 => frL (lvl g l1) fun l2 => frL (lvl g l2) fun l3 => frL (lvl g l3) fun l4 => mainGlobals :: (l1 ++ (l2 ++ (l3 ++ l4)))
def kx (g : Addr → Option Obj) : Fg := frL (asL g) fun as => He.frG g as
theorem kx_in {h : Heap} : (kx h.get?).In h := by
  unfold kx
  rw [frL_eq]
  exact He.frG_in
abbrev AlX : Type := He.AlD × Bool
def obsX (g : Addr → Option Obj) : AlX := (fun K => (He.obsD fa fn K, xb K)) (kx g)
def hk : PySem.W.Hook where
  α := AlX
  obs := fun s => obsX s.heap.get?
  val := fun _ => (He.valD fn, true)
  says := fun _ h => ∃ K : PySem.W.Frag, K.In h ∧ He.SaysD fa fn K ∧ xb K = true
  of := fun _ _ e => ⟨_, kx_in, congrArg (fun z : AlX => z.1) e, congrArg (fun z : AlX => z.2) e⟩
  keeps := fun _ _ _ ⟨K, hK, c⟩ k => ⟨K, PySem.W.Frag.In.keeps hK k, c⟩
abbrev R : PySem.W.OpenRow := PySem.W.OpenLaw.row PySem.Challenge.rw_curvewords_k75_whole_slopes_or_none
def ob (s : PySem.W.SharedT) : AlX := obsX (HandSHeadRun.getT s)
theorem ob_eq (s : PySem.W.SharedT) : ob s = hk.obs s.abs := by
  have e : HandSHeadRun.getT s = s.abs.heap.get? := funext (HandSHeadRun.getT_eq s)
  show obsX _ = obsX _
  rw [e]
theorem run (w : World) : HandSHeadRun.RunEq R (PySem.W.view R.prog [98]) hk ob 20000 loose w := by
  intro os
  kernel_rfl
theorem bindsK {K : Fg} {x qual : Str} {params : Arguments} {body : List Stmt} {scope : Scope} {f : Addr} {fd : FuncData} {a : Str} (F : FunD K x qual params body scope [] [] f fd)
    (h : ∀ (kV doc pm : Value) (an : Option Addr) (cdv ct : Value) (ws : List Value), ws.length = 1 → bindArgs (PySem.W.fnOf x qual params body scope .none kV doc pm an cdv ct) ⟨[], [a].zip ws⟩ = pure ([a].zip ws)) (s : Shared) (ws : List Value) (hl : ws.length = 1) : BindsTo s fd ⟨[], [a].zip ws⟩ ([a].zip ws) := by
  obtain ⟨oc, od, dV, kV, doc, pm, an, cdv, ct, osl, rfl, lk, hcd, hD, hK⟩ := F.ex
  rcases hD with ⟨_, rfl⟩ | ⟨e, _⟩
  · exact .of_eq (h kV doc pm an cdv ct ws hl)
  · exact absurd rfl e
theorem facts {P : Program} {w : World} {K : Fg} {h : Heap} {mg : Str → Option Value} {f : Addr} (X : K.In h) (G : h.Ns mainGlobals mg) (hfa : mg ("law" : Str) = some (.ref f)) (c0 : He.SaysD fa fn K) (x : xb K = true) :
    ∃ fd : FuncData, (∀ (s : Shared) (v : Value), BindsTo s fd ⟨[v], []⟩ [("script", v)]) ∧ ∀ base : Heap, K.In base → base.Ns mainGlobals mg → FnOk P w K mg base CX0 16 f fd ["script"] (spD K p_law) := by
  obtain ⟨x_t_PRIMES, x⟩ := He.ba x
  obtain ⟨x_i_Curve, x⟩ := He.ba x
  have x_i_Function := x
  have fx : Fx K mg := {
    b_ValueError := He.free_ok X G (c0.fact 89 (f := .free "ValueError") rfl)
    b_abs := He.free_ok X G (c0.fact 90 (f := .free "abs") rfl)
    b_bool := He.free_ok X G (c0.fact 91 (f := .free "bool") rfl)
    b_enumerate := He.free_ok X G (c0.fact 92 (f := .free "enumerate") rfl)
    b_int := He.free_ok X G (c0.fact 93 (f := .free "int") rfl)
    b_isinstance := He.free_ok X G (c0.fact 94 (f := .free "isinstance") rfl)
    b_len := He.free_ok X G (c0.fact 95 (f := .free "len") rfl)
    b_list := He.free_ok X G (c0.fact 96 (f := .free "list") rfl)
    b_max := He.free_ok X G (c0.fact 97 (f := .free "max") rfl)
    b_min := He.free_ok X G (c0.fact 98 (f := .free "min") rfl)
    b_range := He.free_ok X G (c0.fact 99 (f := .free "range") rfl)
    b_repr := He.free_ok X G (c0.fact 100 (f := .free "repr") rfl)
    b_sum := He.free_ok X G (c0.fact 101 (f := .free "sum") rfl)
    b_super := He.free_ok X G (c0.fact 102 (f := .free "super") rfl)
    g_PRIMES := ⟨_, He.glo_ok X G (c0.fact 103 (f := .glo "PRIMES") rfl), rfl⟩
    t_PRIMES := fun H => He.tupB_ok x_t_PRIMES H
    g_MOST_POWER := by obtain ⟨t, e⟩ := He.int_ok X G (c0.fact 104 (f := .int "MOST_POWER" 60) rfl); exact ⟨_, e, t, rfl⟩
    g_MOST_EXPONENT := by obtain ⟨t, e⟩ := He.int_ok X G (c0.fact 105 (f := .int "MOST_EXPONENT" 20) rfl); exact ⟨_, e, t, rfl⟩
    g_Curve := ⟨_, He.glo_ok X G (c0.fact 20 (f := .glo "Curve") rfl), rfl⟩
    ic_Curve := insB_ok (He.cls_ok (c0.fact 106 (f := .cls "Curve") rfl)) x_i_Curve
    n_Curve_polynomial := He.noat_ok (c0.fact 107 (f := .noat "Curve" "_polynomial") rfl)
    n_Curve_prime := He.noat_ok (c0.fact 108 (f := .noat "Curve" "_prime") rfl)
    g_Function := ⟨_, He.glo_ok X G (c0.fact 26 (f := .glo "Function") rfl), rfl⟩
    ic_Function := insB_ok (He.cls_ok (c0.fact 109 (f := .cls "Function") rfl)) x_i_Function
    n_Function_curve := He.noat_ok (c0.fact 110 (f := .noat "Function" "_curve") rfl)
    n_Function_parts := He.noat_ok (c0.fact 111 (f := .noat "Function" "_parts") rfl) }
  obtain ⟨fd_is_whole, F_is_whole⟩ := c0.def_ 0 (d := d_is_whole) rfl
  obtain ⟨fd_inverse, F_inverse⟩ := c0.def_ 6 (d := d_inverse) rfl
  obtain ⟨fd_trimmed, F_trimmed⟩ := c0.def_ 7 (d := d_trimmed) rfl
  obtain ⟨fd_Curve_prime, F_Curve_prime⟩ := c0.def_ 21 (d := d_Curve_prime) rfl
  obtain ⟨fd_Curve_polynomial, F_Curve_polynomial⟩ := c0.def_ 22 (d := d_Curve_polynomial) rfl
  obtain ⟨fd_Curve___eq__, F_Curve___eq__⟩ := c0.def_ 23 (d := d_Curve___eq__) rfl
  obtain ⟨fd_Function_curve, F_Function_curve⟩ := c0.def_ 26 (d := d_Function_curve) rfl
  obtain ⟨fd_Function_top, F_Function_top⟩ := c0.def_ 27 (d := d_Function_top) rfl
  obtain ⟨fd_Function_side, F_Function_side⟩ := c0.def_ 28 (d := d_Function_side) rfl
  obtain ⟨fd_Function_bottom, F_Function_bottom⟩ := c0.def_ 29 (d := d_Function_bottom) rfl
  obtain ⟨fd_check_function, F_check_function⟩ := c0.def_ 43 (d := d_check_function) rfl
  obtain ⟨fd_stretched, F_stretched⟩ := c0.def_ 52 (d := d_stretched) rfl
  obtain ⟨fd__law_hash, F__law_hash⟩ := c0.def_ 59 (d := d__law_hash) rfl
  obtain ⟨fd__law_cell, F__law_cell⟩ := c0.def_ 61 (d := d__law_cell) rfl
  obtain ⟨fd__law_trim, F__law_trim⟩ := c0.def_ 63 (d := d__law_trim) rfl
  obtain ⟨fd__law_back, F__law_back⟩ := c0.def_ 68 (d := d__law_back) rfl
  obtain ⟨fd__law_nought, F__law_nought⟩ := c0.def_ 78 (d := d__law_nought) rfl
  obtain ⟨fd_is_between, F_is_between⟩ := c0.def_ 1 (d := d_is_between) rfl
  obtain ⟨fd_check_prime, F_check_prime⟩ := c0.def_ 3 (d := d_check_prime) rfl
  obtain ⟨fd_added, F_added⟩ := c0.def_ 8 (d := d_added) rfl
  obtain ⟨fd_negated, F_negated⟩ := c0.def_ 9 (d := d_negated) rfl
  obtain ⟨fd_scaled, F_scaled⟩ := c0.def_ 11 (d := d_scaled) rfl
  obtain ⟨fd_multiplied, F_multiplied⟩ := c0.def_ 12 (d := d_multiplied) rfl
  obtain ⟨fd_parted, F_parted⟩ := c0.def_ 15 (d := d_parted) rfl
  obtain ⟨fd_slope_of, F_slope_of⟩ := c0.def_ 19 (d := d_slope_of) rfl
  obtain ⟨fd_Function___eq__, F_Function___eq__⟩ := c0.def_ 30 (d := d_Function___eq__) rfl
  obtain ⟨fd_parts_of, F_parts_of⟩ := c0.def_ 33 (d := d_parts_of) rfl
  obtain ⟨fd_is_nought, F_is_nought⟩ := c0.def_ 34 (d := d_is_nought) rfl
  obtain ⟨fd_check_both, F_check_both⟩ := c0.def_ 44 (d := d_check_both) rfl
  obtain ⟨fd_every, F_every⟩ := c0.def_ 49 (d := d_every) rfl
  obtain ⟨fd_raised_source, F_raised_source⟩ := c0.def_ 57 (d := d_raised_source) rfl
  obtain ⟨fd__law_random, F__law_random⟩ := c0.def_ 60 (d := d__law_random) rfl
  obtain ⟨fd__law_generator, F__law_generator⟩ := c0.def_ 62 (d := d__law_generator) rfl
  obtain ⟨fd__law_add, F__law_add⟩ := c0.def_ 64 (d := d__law_add) rfl
  obtain ⟨fd__law_scale, F__law_scale⟩ := c0.def_ 65 (d := d__law_scale) rfl
  obtain ⟨fd__law_mul, F__law_mul⟩ := c0.def_ 66 (d := d__law_mul) rfl
  obtain ⟨fd__law_fall, F__law_fall⟩ := c0.def_ 71 (d := d__law_fall) rfl
  obtain ⟨fd__law_seen, F__law_seen⟩ := c0.def_ 77 (d := d__law_seen) rfl
  obtain ⟨fd_check_number, F_check_number⟩ := c0.def_ 2 (d := d_check_number) rfl
  obtain ⟨fd_is_poly_list, F_is_poly_list⟩ := c0.def_ 4 (d := d_is_poly_list) rfl
  obtain ⟨fd_lessened, F_lessened⟩ := c0.def_ 10 (d := d_lessened) rfl
  obtain ⟨fd_power_of_polys, F_power_of_polys⟩ := c0.def_ 14 (d := d_power_of_polys) rfl
  obtain ⟨fd_whole_part, F_whole_part⟩ := c0.def_ 16 (d := d_whole_part) rfl
  obtain ⟨fd__law_power, F__law_power⟩ := c0.def_ 67 (d := d__law_power) rfl
  obtain ⟨fd__law_rest, F__law_rest⟩ := c0.def_ 69 (d := d__law_rest) rfl
  obtain ⟨fd__law_poly, F__law_poly⟩ := c0.def_ 72 (d := d__law_poly) rfl
  obtain ⟨fd__law_same, F__law_same⟩ := c0.def_ 79 (d := d__law_same) rfl
  obtain ⟨fd__law_whole, F__law_whole⟩ := c0.def_ 81 (d := d__law_whole) rfl
  obtain ⟨fd_check_poly, F_check_poly⟩ := c0.def_ 5 (d := d_check_poly) rfl
  obtain ⟨fd_common_with, F_common_with⟩ := c0.def_ 17 (d := d_common_with) rfl
  obtain ⟨fd_norm_top, F_norm_top⟩ := c0.def_ 39 (d := d_norm_top) rfl
  obtain ⟨fd_tops_over, F_tops_over⟩ := c0.def_ 50 (d := d_tops_over) rfl
  obtain ⟨fd__law_common, F__law_common⟩ := c0.def_ 70 (d := d__law_common) rfl
  obtain ⟨fd__law_triple, F__law_triple⟩ := c0.def_ 75 (d := d__law_triple) rfl
  obtain ⟨fd_common_of, F_common_of⟩ := c0.def_ 18 (d := d_common_of) rfl
  obtain ⟨fd__law_curve, F__law_curve⟩ := c0.def_ 73 (d := d__law_curve) rfl
  obtain ⟨fd__law_least, F__law_least⟩ := c0.def_ 80 (d := d__law_least) rfl
  obtain ⟨fd_is_curve_poly, F_is_curve_poly⟩ := c0.def_ 24 (d := d_is_curve_poly) rfl
  obtain ⟨fd_least_parts, F_least_parts⟩ := c0.def_ 31 (d := d_least_parts) rfl
  obtain ⟨fd__law_slope, F__law_slope⟩ := c0.def_ 82 (d := d__law_slope) rfl
  obtain ⟨fd__law_parts, F__law_parts⟩ := c0.def_ 83 (d := d__law_parts) rfl
  obtain ⟨fd_Curve___init__, F_Curve___init__⟩ := c0.def_ 20 (d := d_Curve___init__) rfl
  obtain ⟨fd_Function___init__, F_Function___init__⟩ := c0.def_ 25 (d := d_Function___init__) rfl
  obtain ⟨fd_made, F_made⟩ := c0.def_ 32 (d := d_made) rfl
  obtain ⟨fd__law_of, F__law_of⟩ := c0.def_ 74 (d := d__law_of) rfl
  obtain ⟨fd_plus, F_plus⟩ := c0.def_ 35 (d := d_plus) rfl
  obtain ⟨fd_opposite, F_opposite⟩ := c0.def_ 36 (d := d_opposite) rfl
  obtain ⟨fd_times, F_times⟩ := c0.def_ 38 (d := d_times) rfl
  obtain ⟨fd_back_of, F_back_of⟩ := c0.def_ 40 (d := d_back_of) rfl
  obtain ⟨fd_slope_by, F_slope_by⟩ := c0.def_ 42 (d := d_slope_by) rfl
  obtain ⟨fd_parts_by, F_parts_by⟩ := c0.def_ 51 (d := d_parts_by) rfl
  obtain ⟨fd__law_made, F__law_made⟩ := c0.def_ 76 (d := d__law_made) rfl
  obtain ⟨fd_minus, F_minus⟩ := c0.def_ 37 (d := d_minus) rfl
  obtain ⟨fd_raised_to, F_raised_to⟩ := c0.def_ 41 (d := d_raised_to) rfl
  obtain ⟨fd_sum_of, F_sum_of⟩ := c0.def_ 45 (d := d_sum_of) rfl
  obtain ⟨fd_slope, F_slope⟩ := c0.def_ 48 (d := d_slope) rfl
  obtain ⟨fd_parts, F_parts⟩ := c0.def_ 53 (d := d_parts) rfl
  obtain ⟨fd_descent_by, F_descent_by⟩ := c0.def_ 54 (d := d_descent_by) rfl
  obtain ⟨fd_power_of, F_power_of⟩ := c0.def_ 13 (d := d_power_of) rfl
  obtain ⟨fd_less_of, F_less_of⟩ := c0.def_ 46 (d := d_less_of) rfl
  obtain ⟨fd_power_of_functions, F_power_of_functions⟩ := c0.def_ 47 (d := d_power_of_functions) rfl
  obtain ⟨fd_descent, F_descent⟩ := c0.def_ 55 (d := d_descent) rfl
  obtain ⟨fd_slope_source, F_slope_source⟩ := c0.def_ 56 (d := d_slope_source) rfl
  obtain ⟨fd_whose_slope, F_whose_slope⟩ := c0.def_ 58 (d := d_whose_slope) rfl
  obtain ⟨fd__law_asked, F__law_asked⟩ := c0.def_ 84 (d := d__law_asked) rfl
  obtain ⟨fd__law_right, F__law_right⟩ := c0.def_ 85 (d := d__law_right) rfl
  obtain ⟨fd_law, F_law⟩ := c0.def_ 86 (d := d_law) rfl
  have e := hfa.symm.trans (He.glo_ok X G (c0.fact 88 (f := .glo "law") rfl))
  cases e
  refine ⟨fd_law, fun s v => FunD.bindsA (ps := ["script"]) F_law (fun _ _ _ _ _ _ us hl => match us, hl with | [_], _ => rfl) s [v] rfl, fun base _ _ => ?_⟩
  · skip
    have o_is_whole := ok_is_whole (P := P) (w := w) (base := base) fx  F_is_whole
    have c_is_whole : Cal P w K mg base 1 "is_whole" (spD K p_is_whole) [] := ⟨_, fd_is_whole, ["value"], [], o_is_whole, He.glo_ok X G (c0.fact 0 (f := .glo "is_whole") rfl), F_is_whole.kp, (F_is_whole.bindsN fun _ _ _ _ _ _ us hl => match us, hl with | [_], _ => rfl), .nil⟩
    have o_inverse := ok_inverse (P := P) (w := w) (base := base) fx  F_inverse
    have c_inverse : Cal P w K mg base 1 "inverse" (spD K p_inverse) [] := ⟨_, fd_inverse, ["p", "number"], [], o_inverse, He.glo_ok X G (c0.fact 6 (f := .glo "inverse") rfl), F_inverse.kp, (F_inverse.bindsN fun _ _ _ _ _ _ us hl => match us, hl with | [_, _], _ => rfl), .nil⟩
    have o_trimmed := ok_trimmed (P := P) (w := w) (base := base) fx  F_trimmed
    have c_trimmed : Cal P w K mg base 1 "trimmed" (spD K p_trimmed) [] := ⟨_, fd_trimmed, ["p", "numbers"], [], o_trimmed, He.glo_ok X G (c0.fact 7 (f := .glo "trimmed") rfl), F_trimmed.kp, (F_trimmed.bindsN fun _ _ _ _ _ _ us hl => match us, hl with | [_, _], _ => rfl), .nil⟩
    have o_Curve_prime := ok_Curve_prime (P := P) (w := w) (base := base) fx  F_Curve_prime
    have m_Curve_prime : Met P w K mg base 1 (He.ga K "Curve") "prime" (spD K (p_Curve_prime K)) [] := ⟨_, fd_Curve_prime, ["self"], [], He.cls_ok (c0.fact 106 (f := .cls "Curve") rfl), He.meth_ok (c0.fact 22 (f := .meth "Curve" "prime") rfl), o_Curve_prime, (F_Curve_prime.bindsN fun _ _ _ _ _ _ us hl => match us, hl with | [_], _ => rfl), .nil⟩
    have o_Curve_polynomial := ok_Curve_polynomial (P := P) (w := w) (base := base) fx  F_Curve_polynomial
    have m_Curve_polynomial : Met P w K mg base 1 (He.ga K "Curve") "polynomial" (spD K (p_Curve_polynomial K)) [] := ⟨_, fd_Curve_polynomial, ["self"], [], He.cls_ok (c0.fact 106 (f := .cls "Curve") rfl), He.meth_ok (c0.fact 23 (f := .meth "Curve" "polynomial") rfl), o_Curve_polynomial, (F_Curve_polynomial.bindsN fun _ _ _ _ _ _ us hl => match us, hl with | [_], _ => rfl), .nil⟩
    have o_Curve___eq__ := ok_Curve___eq__ (P := P) (w := w) (base := base) fx  F_Curve___eq__
    have m_Curve___eq__ : Met P w K mg base 1 (He.ga K "Curve") "__eq__" (spD K (p_Curve___eq__ K)) [] := ⟨_, fd_Curve___eq__, ["self", "other"], [], He.cls_ok (c0.fact 106 (f := .cls "Curve") rfl), He.meth_ok (c0.fact 24 (f := .meth "Curve" "__eq__") rfl), o_Curve___eq__, (F_Curve___eq__.bindsN fun _ _ _ _ _ _ us hl => match us, hl with | [_, _], _ => rfl), .nil⟩
    have o_Function_curve := ok_Function_curve (P := P) (w := w) (base := base) fx  F_Function_curve
    have m_Function_curve : Met P w K mg base 1 (He.ga K "Function") "curve" (spD K (p_Function_curve K)) [] := ⟨_, fd_Function_curve, ["self"], [], He.cls_ok (c0.fact 109 (f := .cls "Function") rfl), He.meth_ok (c0.fact 28 (f := .meth "Function" "curve") rfl), o_Function_curve, (F_Function_curve.bindsN fun _ _ _ _ _ _ us hl => match us, hl with | [_], _ => rfl), .nil⟩
    have o_Function_top := ok_Function_top (P := P) (w := w) (base := base) fx  F_Function_top
    have m_Function_top : Met P w K mg base 1 (He.ga K "Function") "top" (spD K (p_Function_top K)) [] := ⟨_, fd_Function_top, ["self"], [], He.cls_ok (c0.fact 109 (f := .cls "Function") rfl), He.meth_ok (c0.fact 29 (f := .meth "Function" "top") rfl), o_Function_top, (F_Function_top.bindsN fun _ _ _ _ _ _ us hl => match us, hl with | [_], _ => rfl), .nil⟩
    have o_Function_side := ok_Function_side (P := P) (w := w) (base := base) fx  F_Function_side
    have m_Function_side : Met P w K mg base 1 (He.ga K "Function") "side" (spD K (p_Function_side K)) [] := ⟨_, fd_Function_side, ["self"], [], He.cls_ok (c0.fact 109 (f := .cls "Function") rfl), He.meth_ok (c0.fact 30 (f := .meth "Function" "side") rfl), o_Function_side, (F_Function_side.bindsN fun _ _ _ _ _ _ us hl => match us, hl with | [_], _ => rfl), .nil⟩
    have o_Function_bottom := ok_Function_bottom (P := P) (w := w) (base := base) fx  F_Function_bottom
    have m_Function_bottom : Met P w K mg base 1 (He.ga K "Function") "bottom" (spD K (p_Function_bottom K)) [] := ⟨_, fd_Function_bottom, ["self"], [], He.cls_ok (c0.fact 109 (f := .cls "Function") rfl), He.meth_ok (c0.fact 31 (f := .meth "Function" "bottom") rfl), o_Function_bottom, (F_Function_bottom.bindsN fun _ _ _ _ _ _ us hl => match us, hl with | [_], _ => rfl), .nil⟩
    have o_check_function := ok_check_function (P := P) (w := w) (base := base) fx  F_check_function
    have c_check_function : Cal P w K mg base 1 "check_function" (spD K (p_check_function K)) [] := ⟨_, fd_check_function, ["function"], [], o_check_function, He.glo_ok X G (c0.fact 45 (f := .glo "check_function") rfl), F_check_function.kp, (F_check_function.bindsN fun _ _ _ _ _ _ us hl => match us, hl with | [_], _ => rfl), .nil⟩
    have o_stretched := ok_stretched (P := P) (w := w) (base := base) fx  F_stretched
    have c_stretched : Cal P w K mg base 1 "stretched" (spD K p_stretched) [] := ⟨_, fd_stretched, ["p", "poly"], [], o_stretched, He.glo_ok X G (c0.fact 54 (f := .glo "stretched") rfl), F_stretched.kp, (F_stretched.bindsN fun _ _ _ _ _ _ us hl => match us, hl with | [_, _], _ => rfl), .nil⟩
    have o__law_hash := ok__law_hash (P := P) (w := w) (base := base) fx  F__law_hash
    have c__law_hash : Cal P w K mg base 1 "_law_hash" (spD K p__law_hash) [] := ⟨_, fd__law_hash, ["seed", "index"], [], o__law_hash, He.glo_ok X G (c0.fact 61 (f := .glo "_law_hash") rfl), F__law_hash.kp, (F__law_hash.bindsN fun _ _ _ _ _ _ us hl => match us, hl with | [_, _], _ => rfl), .nil⟩
    have o__law_cell := ok__law_cell (P := P) (w := w) (base := base) fx  F__law_cell
    have c__law_cell : Cal P w K mg base 1 "_law_cell" (spD K p__law_cell) [] := ⟨_, fd__law_cell, ["script", "index"], [], o__law_cell, He.glo_ok X G (c0.fact 63 (f := .glo "_law_cell") rfl), F__law_cell.kp, (F__law_cell.bindsN fun _ _ _ _ _ _ us hl => match us, hl with | [_, _], _ => rfl), .nil⟩
    have o__law_trim := ok__law_trim (P := P) (w := w) (base := base) fx  F__law_trim
    have c__law_trim : Cal P w K mg base 1 "_law_trim" (spD K p__law_trim) [] := ⟨_, fd__law_trim, ["p", "row"], [], o__law_trim, He.glo_ok X G (c0.fact 65 (f := .glo "_law_trim") rfl), F__law_trim.kp, (F__law_trim.bindsN fun _ _ _ _ _ _ us hl => match us, hl with | [_, _], _ => rfl), .nil⟩
    have o__law_back := ok__law_back (P := P) (w := w) (base := base) fx  F__law_back
    have c__law_back : Cal P w K mg base 1 "_law_back" (spD K p__law_back) [] := ⟨_, fd__law_back, ["p", "number"], [], o__law_back, He.glo_ok X G (c0.fact 70 (f := .glo "_law_back") rfl), F__law_back.kp, (F__law_back.bindsN fun _ _ _ _ _ _ us hl => match us, hl with | [_, _], _ => rfl), .nil⟩
    have o__law_nought := ok__law_nought (P := P) (w := w) (base := base) fx  F__law_nought
    have c__law_nought : Cal P w K mg base 1 "_law_nought" (spD K p__law_nought) [] := ⟨_, fd__law_nought, ["one"], [], o__law_nought, He.glo_ok X G (c0.fact 80 (f := .glo "_law_nought") rfl), F__law_nought.kp, (F__law_nought.bindsN fun _ _ _ _ _ _ us hl => match us, hl with | [_], _ => rfl), .nil⟩
    have o_is_between := ok_is_between (P := P) (w := w) (base := base) fx (c_is_whole := c_is_whole) F_is_between
    have c_is_between : Cal P w K mg base 2 "is_between" (spD K p_is_between) [] := ⟨_, fd_is_between, ["value", "low", "high"], [], o_is_between, He.glo_ok X G (c0.fact 1 (f := .glo "is_between") rfl), F_is_between.kp, (F_is_between.bindsN fun _ _ _ _ _ _ us hl => match us, hl with | [_, _, _], _ => rfl), .nil⟩
    have o_check_prime := ok_check_prime (P := P) (w := w) (base := base) fx (c_is_whole := c_is_whole) F_check_prime
    have c_check_prime : Cal P w K mg base 2 "check_prime" (spD K p_check_prime) [] := ⟨_, fd_check_prime, ["p"], [], o_check_prime, He.glo_ok X G (c0.fact 3 (f := .glo "check_prime") rfl), F_check_prime.kp, (F_check_prime.bindsN fun _ _ _ _ _ _ us hl => match us, hl with | [_], _ => rfl), .nil⟩
    have o_added := ok_added (P := P) (w := w) (base := base) fx (c_trimmed := c_trimmed) F_added
    have c_added : Cal P w K mg base 2 "added" (spD K p_added) [] := ⟨_, fd_added, ["p", "one", "other"], [], o_added, He.glo_ok X G (c0.fact 8 (f := .glo "added") rfl), F_added.kp, (F_added.bindsN fun _ _ _ _ _ _ us hl => match us, hl with | [_, _, _], _ => rfl), .nil⟩
    have o_negated := ok_negated (P := P) (w := w) (base := base) fx (c_trimmed := c_trimmed) F_negated
    have c_negated : Cal P w K mg base 2 "negated" (spD K p_negated) [] := ⟨_, fd_negated, ["p", "one"], [], o_negated, He.glo_ok X G (c0.fact 9 (f := .glo "negated") rfl), F_negated.kp, (F_negated.bindsN fun _ _ _ _ _ _ us hl => match us, hl with | [_, _], _ => rfl), .nil⟩
    have o_scaled := ok_scaled (P := P) (w := w) (base := base) fx (c_trimmed := c_trimmed) F_scaled
    have c_scaled : Cal P w K mg base 2 "scaled" (spD K p_scaled) [] := ⟨_, fd_scaled, ["p", "one", "number"], [], o_scaled, He.glo_ok X G (c0.fact 11 (f := .glo "scaled") rfl), F_scaled.kp, (F_scaled.bindsN fun _ _ _ _ _ _ us hl => match us, hl with | [_, _, _], _ => rfl), .nil⟩
    have o_multiplied := ok_multiplied (P := P) (w := w) (base := base) fx (c_trimmed := c_trimmed) F_multiplied
    have c_multiplied : Cal P w K mg base 2 "multiplied" (spD K p_multiplied) [] := ⟨_, fd_multiplied, ["p", "one", "other"], [], o_multiplied, He.glo_ok X G (c0.fact 12 (f := .glo "multiplied") rfl), F_multiplied.kp, (F_multiplied.bindsN fun _ _ _ _ _ _ us hl => match us, hl with | [_, _, _], _ => rfl), .nil⟩
    have o_parted := ok_parted (P := P) (w := w) (base := base) fx (c_inverse := c_inverse) (c_trimmed := c_trimmed) F_parted
    have c_parted : Cal P w K mg base 2 "parted" (spD K p_parted) [] := ⟨_, fd_parted, ["p", "one", "other"], [], o_parted, He.glo_ok X G (c0.fact 15 (f := .glo "parted") rfl), F_parted.kp, (F_parted.bindsN fun _ _ _ _ _ _ us hl => match us, hl with | [_, _, _], _ => rfl), .nil⟩
    have o_slope_of := ok_slope_of (P := P) (w := w) (base := base) fx (c_trimmed := c_trimmed) F_slope_of
    have c_slope_of : Cal P w K mg base 2 "slope_of" (spD K p_slope_of) [] := ⟨_, fd_slope_of, ["p", "one"], [], o_slope_of, He.glo_ok X G (c0.fact 19 (f := .glo "slope_of") rfl), F_slope_of.kp, (F_slope_of.bindsN fun _ _ _ _ _ _ us hl => match us, hl with | [_, _], _ => rfl), .nil⟩
    have o_Function___eq__ := ok_Function___eq__ (P := P) (w := w) (base := base) fx (m_Curve___eq__ := m_Curve___eq__) F_Function___eq__
    have m_Function___eq__ : Met P w K mg base 2 (He.ga K "Function") "__eq__" (spD K (p_Function___eq__ K)) [] := ⟨_, fd_Function___eq__, ["self", "other"], [], He.cls_ok (c0.fact 109 (f := .cls "Function") rfl), He.meth_ok (c0.fact 32 (f := .meth "Function" "__eq__") rfl), o_Function___eq__, (F_Function___eq__.bindsN fun _ _ _ _ _ _ us hl => match us, hl with | [_, _], _ => rfl), .nil⟩
    have o_parts_of := ok_parts_of (P := P) (w := w) (base := base) fx (m_Function_curve := m_Function_curve) (m_Curve_prime := m_Curve_prime) (m_Curve_polynomial := m_Curve_polynomial) (m_Function_top := m_Function_top) (m_Function_side := m_Function_side) (m_Function_bottom := m_Function_bottom) F_parts_of
    have c_parts_of : Cal P w K mg base 2 "parts_of" (spD K (p_parts_of K)) [] := ⟨_, fd_parts_of, ["function"], [], o_parts_of, He.glo_ok X G (c0.fact 35 (f := .glo "parts_of") rfl), F_parts_of.kp, (F_parts_of.bindsN fun _ _ _ _ _ _ us hl => match us, hl with | [_], _ => rfl), .nil⟩
    have o_is_nought := ok_is_nought (P := P) (w := w) (base := base) fx (m_Function_top := m_Function_top) (m_Function_side := m_Function_side) F_is_nought
    have c_is_nought : Cal P w K mg base 2 "is_nought" (spD K (p_is_nought K)) [] := ⟨_, fd_is_nought, ["function"], [], o_is_nought, He.glo_ok X G (c0.fact 36 (f := .glo "is_nought") rfl), F_is_nought.kp, (F_is_nought.bindsN fun _ _ _ _ _ _ us hl => match us, hl with | [_], _ => rfl), .nil⟩
    have o_check_both := ok_check_both (P := P) (w := w) (base := base) fx (c_check_function := c_check_function) (m_Function_curve := m_Function_curve) (m_Curve___eq__ := m_Curve___eq__) F_check_both
    have c_check_both : Cal P w K mg base 2 "check_both" (spD K (p_check_both K)) [] := ⟨_, fd_check_both, ["one", "other"], [], o_check_both, He.glo_ok X G (c0.fact 46 (f := .glo "check_both") rfl), F_check_both.kp, (F_check_both.bindsN fun _ _ _ _ _ _ us hl => match us, hl with | [_, _], _ => rfl), .nil⟩
    have o_every := ok_every (P := P) (w := w) (base := base) fx (c_trimmed := c_trimmed) F_every
    have c_every : Cal P w K mg base 2 "every" (spD K p_every) [] := ⟨_, fd_every, ["p", "poly", "first"], [], o_every, He.glo_ok X G (c0.fact 51 (f := .glo "every") rfl), F_every.kp, (F_every.bindsN fun _ _ _ _ _ _ us hl => match us, hl with | [_, _, _], _ => rfl), .nil⟩
    have o_raised_source := ok_raised_source (P := P) (w := w) (base := base) fx (c_trimmed := c_trimmed) (c_inverse := c_inverse) F_raised_source
    have c_raised_source : Cal P w K mg base 2 "raised_source" (spD K p_raised_source) [] := ⟨_, fd_raised_source, ["p", "poly"], [], o_raised_source, He.glo_ok X G (c0.fact 59 (f := .glo "raised_source") rfl), F_raised_source.kp, (F_raised_source.bindsN fun _ _ _ _ _ _ us hl => match us, hl with | [_, _], _ => rfl), .nil⟩
    have o__law_random := ok__law_random (P := P) (w := w) (base := base) fx (c__law_hash := c__law_hash) F__law_random
    have c__law_random : Cal P w K mg base 2 "_law_random" (spG K 1 p__law_random) [] := ⟨_, fd__law_random, ["generator", "bound"], [], o__law_random, He.glo_ok X G (c0.fact 62 (f := .glo "_law_random") rfl), F__law_random.kp, (F__law_random.bindsN fun _ _ _ _ _ _ us hl => match us, hl with | [_, _], _ => rfl), .nil⟩
    have o__law_generator := ok__law_generator (P := P) (w := w) (base := base) fx (c__law_cell := c__law_cell) F__law_generator
    have c__law_generator : Cal P w K mg base 2 "_law_generator" (spN K p__law_generator) [] := ⟨_, fd__law_generator, ["script", "index"], [], o__law_generator, He.glo_ok X G (c0.fact 64 (f := .glo "_law_generator") rfl), F__law_generator.kp, (F__law_generator.bindsN fun _ _ _ _ _ _ us hl => match us, hl with | [_, _], _ => rfl), .nil⟩
    have o__law_add := ok__law_add (P := P) (w := w) (base := base) fx (c__law_trim := c__law_trim) F__law_add
    have c__law_add : Cal P w K mg base 2 "_law_add" (spD K p__law_add) [] := ⟨_, fd__law_add, ["p", "one", "other"], [], o__law_add, He.glo_ok X G (c0.fact 66 (f := .glo "_law_add") rfl), F__law_add.kp, (F__law_add.bindsN fun _ _ _ _ _ _ us hl => match us, hl with | [_, _, _], _ => rfl), .nil⟩
    have o__law_scale := ok__law_scale (P := P) (w := w) (base := base) fx (c__law_trim := c__law_trim) F__law_scale
    have c__law_scale : Cal P w K mg base 2 "_law_scale" (spD K p__law_scale) [] := ⟨_, fd__law_scale, ["p", "one", "number"], [], o__law_scale, He.glo_ok X G (c0.fact 67 (f := .glo "_law_scale") rfl), F__law_scale.kp, (F__law_scale.bindsN fun _ _ _ _ _ _ us hl => match us, hl with | [_, _, _], _ => rfl), .nil⟩
    have o__law_mul := ok__law_mul (P := P) (w := w) (base := base) fx (c__law_trim := c__law_trim) F__law_mul
    have c__law_mul : Cal P w K mg base 2 "_law_mul" (spD K p__law_mul) [] := ⟨_, fd__law_mul, ["p", "one", "other"], [], o__law_mul, He.glo_ok X G (c0.fact 68 (f := .glo "_law_mul") rfl), F__law_mul.kp, (F__law_mul.bindsN fun _ _ _ _ _ _ us hl => match us, hl with | [_, _, _], _ => rfl), .nil⟩
    have o__law_fall := ok__law_fall (P := P) (w := w) (base := base) fx (c__law_trim := c__law_trim) F__law_fall
    have c__law_fall : Cal P w K mg base 2 "_law_fall" (spD K p__law_fall) [] := ⟨_, fd__law_fall, ["p", "one"], [], o__law_fall, He.glo_ok X G (c0.fact 73 (f := .glo "_law_fall") rfl), F__law_fall.kp, (F__law_fall.bindsN fun _ _ _ _ _ _ us hl => match us, hl with | [_, _], _ => rfl), .nil⟩
    have o__law_seen := ok__law_seen (P := P) (w := w) (base := base) fx (m_Function_top := m_Function_top) (m_Function_side := m_Function_side) (m_Function_bottom := m_Function_bottom) F__law_seen
    have c__law_seen : Cal P w K mg base 2 "_law_seen" (spD K (p__law_seen K)) [] := ⟨_, fd__law_seen, ["function"], [], o__law_seen, He.glo_ok X G (c0.fact 79 (f := .glo "_law_seen") rfl), F__law_seen.kp, (F__law_seen.bindsN fun _ _ _ _ _ _ us hl => match us, hl with | [_], _ => rfl), .nil⟩
    have o_check_number := ok_check_number (P := P) (w := w) (base := base) fx (c_is_between := c_is_between) F_check_number
    have c_check_number : Cal P w K mg base 3 "check_number" (spD K p_check_number) [] := ⟨_, fd_check_number, ["number", "low", "high"], [], o_check_number, He.glo_ok X G (c0.fact 2 (f := .glo "check_number") rfl), F_check_number.kp, (F_check_number.bindsN fun _ _ _ _ _ _ us hl => match us, hl with | [_, _, _], _ => rfl), .nil⟩
    have o_is_poly_list := ok_is_poly_list (P := P) (w := w) (base := base) fx (c_is_between := c_is_between) F_is_poly_list
    have c_is_poly_list : Cal P w K mg base 3 "is_poly_list" (spD K p_is_poly_list) [] := ⟨_, fd_is_poly_list, ["p", "value"], [], o_is_poly_list, He.glo_ok X G (c0.fact 4 (f := .glo "is_poly_list") rfl), F_is_poly_list.kp, (F_is_poly_list.bindsN fun _ _ _ _ _ _ us hl => match us, hl with | [_, _], _ => rfl), .nil⟩
    have o_lessened := ok_lessened (P := P) (w := w) (base := base) fx (c_added := c_added) (c_negated := c_negated) F_lessened
    have c_lessened : Cal P w K mg base 3 "lessened" (spD K p_lessened) [] := ⟨_, fd_lessened, ["p", "one", "other"], [], o_lessened, He.glo_ok X G (c0.fact 10 (f := .glo "lessened") rfl), F_lessened.kp, (F_lessened.bindsN fun _ _ _ _ _ _ us hl => match us, hl with | [_, _, _], _ => rfl), .nil⟩
    have o_power_of_polys := ok_power_of_polys (P := P) (w := w) (base := base) fx (c_multiplied := c_multiplied) F_power_of_polys
    have c_power_of_polys : Cal P w K mg base 3 "power_of_polys" (spD K p_power_of) [] := ⟨_, fd_power_of_polys, ["p", "one", "count"], [], o_power_of_polys, He.glo_ok X G (c0.fact 14 (f := .glo "power_of_polys") rfl), F_power_of_polys.kp, (F_power_of_polys.bindsN fun _ _ _ _ _ _ us hl => match us, hl with | [_, _, _], _ => rfl), .nil⟩
    have o_whole_part := ok_whole_part (P := P) (w := w) (base := base) fx (c_parted := c_parted) F_whole_part
    have c_whole_part : Cal P w K mg base 3 "whole_part" (spD K p_whole_part) [] := ⟨_, fd_whole_part, ["p", "one", "other"], [], o_whole_part, He.glo_ok X G (c0.fact 16 (f := .glo "whole_part") rfl), F_whole_part.kp, (F_whole_part.bindsN fun _ _ _ _ _ _ us hl => match us, hl with | [_, _, _], _ => rfl), .nil⟩
    have o__law_power := ok__law_power (P := P) (w := w) (base := base) fx (c__law_mul := c__law_mul) F__law_power
    have c__law_power : Cal P w K mg base 3 "_law_power" (spD K p__law_power) [] := ⟨_, fd__law_power, ["p", "one", "count"], [], o__law_power, He.glo_ok X G (c0.fact 69 (f := .glo "_law_power") rfl), F__law_power.kp, (F__law_power.bindsN fun _ _ _ _ _ _ us hl => match us, hl with | [_, _, _], _ => rfl), .nil⟩
    have o__law_rest := ok__law_rest (P := P) (w := w) (base := base) fx (c__law_back := c__law_back) (c__law_add := c__law_add) (c__law_scale := c__law_scale) (c__law_mul := c__law_mul) F__law_rest
    have c__law_rest : Cal P w K mg base 3 "_law_rest" (spD K p__law_rest) [] := ⟨_, fd__law_rest, ["p", "one", "other"], [], o__law_rest, He.glo_ok X G (c0.fact 71 (f := .glo "_law_rest") rfl), F__law_rest.kp, (F__law_rest.bindsN fun _ _ _ _ _ _ us hl => match us, hl with | [_, _, _], _ => rfl), .nil⟩
    have o__law_poly := ok__law_poly (P := P) (w := w) (base := base) fx (c__law_trim := c__law_trim) (c__law_random := c__law_random) F__law_poly
    have c__law_poly : Cal P w K mg base 3 "_law_poly" (spG K 12 p__law_poly) [] := ⟨_, fd__law_poly, ["generator", "p", "most"], [], o__law_poly, He.glo_ok X G (c0.fact 74 (f := .glo "_law_poly") rfl), F__law_poly.kp, (F__law_poly.bindsN fun _ _ _ _ _ _ us hl => match us, hl with | [_, _, _], _ => rfl), .nil⟩
    have o__law_same := ok__law_same (P := P) (w := w) (base := base) fx (c__law_mul := c__law_mul) F__law_same
    have c__law_same : Cal P w K mg base 3 "_law_same" (spD K p__law_same) [] := ⟨_, fd__law_same, ["told", "one", "other"], [], o__law_same, He.glo_ok X G (c0.fact 81 (f := .glo "_law_same") rfl), F__law_same.kp, (F__law_same.bindsN fun _ _ _ _ _ _ us hl => match us, hl with | [_, _, _], _ => rfl), .nil⟩
    have o__law_whole := ok__law_whole (P := P) (w := w) (base := base) fx (c__law_back := c__law_back) (c__law_add := c__law_add) (c__law_scale := c__law_scale) (c__law_mul := c__law_mul) F__law_whole
    have c__law_whole : Cal P w K mg base 3 "_law_whole" (spD K p__law_whole) [] := ⟨_, fd__law_whole, ["p", "one", "other"], [], o__law_whole, He.glo_ok X G (c0.fact 83 (f := .glo "_law_whole") rfl), F__law_whole.kp, (F__law_whole.bindsN fun _ _ _ _ _ _ us hl => match us, hl with | [_, _, _], _ => rfl), .nil⟩
    have o_check_poly := ok_check_poly (P := P) (w := w) (base := base) fx (c_is_poly_list := c_is_poly_list) F_check_poly
    have c_check_poly : Cal P w K mg base 4 "check_poly" (spD K p_check_poly) [] := ⟨_, fd_check_poly, ["p", "value"], [], o_check_poly, He.glo_ok X G (c0.fact 5 (f := .glo "check_poly") rfl), F_check_poly.kp, (F_check_poly.bindsN fun _ _ _ _ _ _ us hl => match us, hl with | [_, _], _ => rfl), .nil⟩
    have o_common_with := ok_common_with (P := P) (w := w) (base := base) fx (c_inverse := c_inverse) (c_parted := c_parted) (c_lessened := c_lessened) (c_scaled := c_scaled) (c_multiplied := c_multiplied) F_common_with
    have c_common_with : Cal P w K mg base 4 "common_with" (spD K p_common_with) [] := ⟨_, fd_common_with, ["p", "one", "other"], [], o_common_with, He.glo_ok X G (c0.fact 17 (f := .glo "common_with") rfl), F_common_with.kp, (F_common_with.bindsN fun _ _ _ _ _ _ us hl => match us, hl with | [_, _, _], _ => rfl), .nil⟩
    have o_norm_top := ok_norm_top (P := P) (w := w) (base := base) fx (c_parts_of := c_parts_of) (c_lessened := c_lessened) (c_multiplied := c_multiplied) F_norm_top
    have c_norm_top : Cal P w K mg base 4 "norm_top" (spD K (p_norm_top K)) [] := ⟨_, fd_norm_top, ["function"], [], o_norm_top, He.glo_ok X G (c0.fact 41 (f := .glo "norm_top") rfl), F_norm_top.kp, (F_norm_top.bindsN fun _ _ _ _ _ _ us hl => match us, hl with | [_], _ => rfl), .nil⟩
    have o_tops_over := ok_tops_over (P := P) (w := w) (base := base) fx (c_parts_of := c_parts_of) (c_power_of_polys := c_power_of_polys) (c_multiplied := c_multiplied) F_tops_over
    have c_tops_over : Cal P w K mg base 4 "tops_over" (spD K (p_tops_over K)) [] := ⟨_, fd_tops_over, ["function"], [], o_tops_over, He.glo_ok X G (c0.fact 52 (f := .glo "tops_over") rfl), F_tops_over.kp, (F_tops_over.bindsN fun _ _ _ _ _ _ us hl => match us, hl with | [_], _ => rfl), .nil⟩
    have o__law_common := ok__law_common (P := P) (w := w) (base := base) fx (c__law_rest := c__law_rest) F__law_common
    have c__law_common : Cal P w K mg base 4 "_law_common" (spD K p__law_common) [] := ⟨_, fd__law_common, ["p", "one", "other"], [], o__law_common, He.glo_ok X G (c0.fact 72 (f := .glo "_law_common") rfl), F__law_common.kp, (F__law_common.bindsN fun _ _ _ _ _ _ us hl => match us, hl with | [_, _, _], _ => rfl), .nil⟩
    have o__law_triple := ok__law_triple (P := P) (w := w) (base := base) fx (c__law_poly := c__law_poly) F__law_triple
    have c__law_triple : Cal P w K mg base 4 "_law_triple" (spG K 36 p__law_triple) [] := ⟨_, fd__law_triple, ["generator", "told", "most"], [], o__law_triple, He.glo_ok X G (c0.fact 77 (f := .glo "_law_triple") rfl), F__law_triple.kp, (F__law_triple.bindsN fun _ _ _ _ _ _ us hl => match us, hl with | [_, _, _], _ => rfl), .nil⟩
    have o_common_of := ok_common_of (P := P) (w := w) (base := base) fx (c_common_with := c_common_with) F_common_of
    have c_common_of : Cal P w K mg base 5 "common_of" (spD K p_common_of) [] := ⟨_, fd_common_of, ["p", "one", "other"], [], o_common_of, He.glo_ok X G (c0.fact 18 (f := .glo "common_of") rfl), F_common_of.kp, (F_common_of.bindsN fun _ _ _ _ _ _ us hl => match us, hl with | [_, _, _], _ => rfl), .nil⟩
    have o__law_curve := ok__law_curve (P := P) (w := w) (base := base) fx (c__law_random := c__law_random) (c__law_common := c__law_common) (c__law_fall := c__law_fall) F__law_curve
    have c__law_curve : Cal P w K mg base 5 "_law_curve" (spG K 62 p__law_curve) [] := ⟨_, fd__law_curve, ["generator", "most"], [], o__law_curve, He.glo_ok X G (c0.fact 75 (f := .glo "_law_curve") rfl), F__law_curve.kp, (F__law_curve.bindsN fun _ _ _ _ _ _ us hl => match us, hl with | [_, _], _ => rfl), .nil⟩
    have o__law_least := ok__law_least (P := P) (w := w) (base := base) fx (c__law_common := c__law_common) (c__law_back := c__law_back) (c__law_whole := c__law_whole) (c__law_scale := c__law_scale) F__law_least
    have c__law_least : Cal P w K mg base 5 "_law_least" (spD K p__law_least) [] := ⟨_, fd__law_least, ["told", "one"], [], o__law_least, He.glo_ok X G (c0.fact 82 (f := .glo "_law_least") rfl), F__law_least.kp, (F__law_least.bindsN fun _ _ _ _ _ _ us hl => match us, hl with | [_, _], _ => rfl), .nil⟩
    have o_is_curve_poly := ok_is_curve_poly (P := P) (w := w) (base := base) fx (c_common_of := c_common_of) (c_is_poly_list := c_is_poly_list) (c_slope_of := c_slope_of) F_is_curve_poly
    have c_is_curve_poly : Cal P w K mg base 6 "is_curve_poly" (spD K p_is_curve_poly) [] := ⟨_, fd_is_curve_poly, ["p", "value"], [], o_is_curve_poly, He.glo_ok X G (c0.fact 25 (f := .glo "is_curve_poly") rfl), F_is_curve_poly.kp, (F_is_curve_poly.bindsN fun _ _ _ _ _ _ us hl => match us, hl with | [_, _], _ => rfl), .nil⟩
    have o_least_parts := ok_least_parts (P := P) (w := w) (base := base) fx (c_common_of := c_common_of) (c_inverse := c_inverse) (c_whole_part := c_whole_part) (c_scaled := c_scaled) F_least_parts
    have c_least_parts : Cal P w K mg base 6 "least_parts" (spD K p_least_parts) [] := ⟨_, fd_least_parts, ["p", "top", "side", "bottom"], [], o_least_parts, He.glo_ok X G (c0.fact 33 (f := .glo "least_parts") rfl), F_least_parts.kp, (F_least_parts.bindsN fun _ _ _ _ _ _ us hl => match us, hl with | [_, _, _, _], _ => rfl), .nil⟩
    have o__law_slope := ok__law_slope (P := P) (w := w) (base := base) fx (c__law_add := c__law_add) (c__law_scale := c__law_scale) (c__law_least := c__law_least) (c__law_fall := c__law_fall) (c__law_mul := c__law_mul) F__law_slope
    have c__law_slope : Cal P w K mg base 6 "_law_slope" (spD K p__law_slope) [] := ⟨_, fd__law_slope, ["told", "one"], [], o__law_slope, He.glo_ok X G (c0.fact 84 (f := .glo "_law_slope") rfl), F__law_slope.kp, (F__law_slope.bindsN fun _ _ _ _ _ _ us hl => match us, hl with | [_, _], _ => rfl), .nil⟩
    have o__law_parts := ok__law_parts (P := P) (w := w) (base := base) fx (c__law_power := c__law_power) (c__law_mul := c__law_mul) (c__law_least := c__law_least) (c__law_trim := c__law_trim) F__law_parts
    have c__law_parts : Cal P w K mg base 6 "_law_parts" (spD K p__law_parts) [] := ⟨_, fd__law_parts, ["told", "one"], [], o__law_parts, He.glo_ok X G (c0.fact 85 (f := .glo "_law_parts") rfl), F__law_parts.kp, (F__law_parts.bindsN fun _ _ _ _ _ _ us hl => match us, hl with | [_, _], _ => rfl), .nil⟩
    have o_Curve___init__ := ok_Curve___init__ (P := P) (w := w) (base := base) fx (c_check_prime := c_check_prime) (c_is_curve_poly := c_is_curve_poly) F_Curve___init__
    have m_Curve : Mak P w K mg base 7 "Curve" (He.ga K "Curve") (spI K (He.ga K "Curve") (p_Curve___init__ K)) [] := ⟨_, fd_Curve___init__, ["self", "p", "f"], [], He.mkr_ok (c0.fact 21 (f := .mkr "Curve") rfl), o_Curve___init__, He.glo_ok X G (c0.fact 20 (f := .glo "Curve") rfl), (F_Curve___init__.bindsN fun _ _ _ _ _ _ us hl => match us, hl with | [_, _, _], _ => rfl), .nil⟩
    have o_Function___init__ := ok_Function___init__ (P := P) (w := w) (base := base) fx (c_least_parts := c_least_parts) (c_check_poly := c_check_poly) (m_Curve_prime := m_Curve_prime) F_Function___init__
    have m_Function : Mak P w K mg base 7 "Function" (He.ga K "Function") (spI K (He.ga K "Function") (p_Function___init__ K)) [] := ⟨_, fd_Function___init__, ["self", "curve", "top", "side", "bottom"], [], He.mkr_ok (c0.fact 27 (f := .mkr "Function") rfl), o_Function___init__, He.glo_ok X G (c0.fact 26 (f := .glo "Function") rfl), (F_Function___init__.bindsN fun _ _ _ _ _ _ us hl => match us, hl with | [_, _, _, _, _], _ => rfl), .nil⟩
    have o_made := ok_made (P := P) (w := w) (base := base) fx (c_least_parts := c_least_parts) (m_Curve_prime := m_Curve_prime) (m_Function := m_Function) F_made
    have c_made : Cal P w K mg base 9 "made" (spD K (p_made K)) [] := ⟨_, fd_made, ["curve", "top", "side", "bottom"], [], o_made, He.glo_ok X G (c0.fact 34 (f := .glo "made") rfl), F_made.kp, (F_made.bindsN fun _ _ _ _ _ _ us hl => match us, hl with | [_, _, _, _], _ => rfl), .nil⟩
    have o__law_of := ok__law_of (P := P) (w := w) (base := base) fx (m_Curve := m_Curve) F__law_of
    have c__law_of : Cal P w K mg base 9 "_law_of" (spD K (p__law_of K)) [] := ⟨_, fd__law_of, ["told"], [], o__law_of, He.glo_ok X G (c0.fact 76 (f := .glo "_law_of") rfl), F__law_of.kp, (F__law_of.bindsN fun _ _ _ _ _ _ us hl => match us, hl with | [_], _ => rfl), .nil⟩
    have o_plus := ok_plus (P := P) (w := w) (base := base) fx (c_parts_of := c_parts_of) (c_added := c_added) (c_made := c_made) (c_multiplied := c_multiplied) (m_Function_curve := m_Function_curve) (m_Function_bottom := m_Function_bottom) (m_Function_top := m_Function_top) (m_Function_side := m_Function_side) F_plus
    have c_plus : Cal P w K mg base 10 "plus" (spD K (p_plus K)) [] := ⟨_, fd_plus, ["one", "other"], [], o_plus, He.glo_ok X G (c0.fact 37 (f := .glo "plus") rfl), F_plus.kp, (F_plus.bindsN fun _ _ _ _ _ _ us hl => match us, hl with | [_, _], _ => rfl), .nil⟩
    have o_opposite := ok_opposite (P := P) (w := w) (base := base) fx (c_parts_of := c_parts_of) (c_made := c_made) (c_negated := c_negated) (m_Function_curve := m_Function_curve) F_opposite
    have c_opposite : Cal P w K mg base 10 "opposite" (spD K (p_opposite K)) [] := ⟨_, fd_opposite, ["function"], [], o_opposite, He.glo_ok X G (c0.fact 38 (f := .glo "opposite") rfl), F_opposite.kp, (F_opposite.bindsN fun _ _ _ _ _ _ us hl => match us, hl with | [_], _ => rfl), .nil⟩
    have o_times := ok_times (P := P) (w := w) (base := base) fx (c_parts_of := c_parts_of) (c_multiplied := c_multiplied) (c_added := c_added) (c_made := c_made) (m_Function_curve := m_Function_curve) (m_Function_side := m_Function_side) (m_Function_top := m_Function_top) (m_Function_bottom := m_Function_bottom) F_times
    have c_times : Cal P w K mg base 10 "times" (spD K (p_times K)) [] := ⟨_, fd_times, ["one", "other"], [], o_times, He.glo_ok X G (c0.fact 40 (f := .glo "times") rfl), F_times.kp, (F_times.bindsN fun _ _ _ _ _ _ us hl => match us, hl with | [_, _], _ => rfl), .nil⟩
    have o_back_of := ok_back_of (P := P) (w := w) (base := base) fx (c_parts_of := c_parts_of) (c_made := c_made) (c_multiplied := c_multiplied) (c_negated := c_negated) (c_norm_top := c_norm_top) (m_Function_curve := m_Function_curve) F_back_of
    have c_back_of : Cal P w K mg base 10 "back_of" (spD K (p_back_of K)) [] := ⟨_, fd_back_of, ["function"], [], o_back_of, He.glo_ok X G (c0.fact 42 (f := .glo "back_of") rfl), F_back_of.kp, (F_back_of.bindsN fun _ _ _ _ _ _ us hl => match us, hl with | [_], _ => rfl), .nil⟩
    have o_slope_by := ok_slope_by (P := P) (w := w) (base := base) fx (c_parts_of := c_parts_of) (c_lessened := c_lessened) (c_added := c_added) (c_multiplied := c_multiplied) (c_made := c_made) (c_scaled := c_scaled) (c_slope_of := c_slope_of) (m_Function_curve := m_Function_curve) F_slope_by
    have c_slope_by : Cal P w K mg base 10 "slope_by" (spD K (p_slope_by K)) [] := ⟨_, fd_slope_by, ["function"], [], o_slope_by, He.glo_ok X G (c0.fact 44 (f := .glo "slope_by") rfl), F_slope_by.kp, (F_slope_by.bindsN fun _ _ _ _ _ _ us hl => match us, hl with | [_], _ => rfl), .nil⟩
    have o_parts_by := ok_parts_by (P := P) (w := w) (base := base) fx (c_parts_of := c_parts_of) (c_tops_over := c_tops_over) (c_multiplied := c_multiplied) (c_every := c_every) (c_made := c_made) (m_Function_curve := m_Function_curve) F_parts_by
    have c_parts_by : Cal P w K mg base 10 "parts_by" (spD K (p_parts_by K)) [] := ⟨_, fd_parts_by, ["function"], [], o_parts_by, He.glo_ok X G (c0.fact 53 (f := .glo "parts_by") rfl), F_parts_by.kp, (F_parts_by.bindsN fun _ _ _ _ _ _ us hl => match us, hl with | [_], _ => rfl), .nil⟩
    have o__law_made := ok__law_made (P := P) (w := w) (base := base) fx (c__law_of := c__law_of) (m_Function := m_Function) F__law_made
    have c__law_made : Cal P w K mg base 10 "_law_made" (spD K (p__law_made K)) [] := ⟨_, fd__law_made, ["told", "one"], [], o__law_made, He.glo_ok X G (c0.fact 78 (f := .glo "_law_made") rfl), F__law_made.kp, (F__law_made.bindsN fun _ _ _ _ _ _ us hl => match us, hl with | [_, _], _ => rfl), .nil⟩
    have o_minus := ok_minus (P := P) (w := w) (base := base) fx (c_plus := c_plus) (c_opposite := c_opposite) F_minus
    have c_minus : Cal P w K mg base 11 "minus" (spD K (p_minus K)) [] := ⟨_, fd_minus, ["one", "other"], [], o_minus, He.glo_ok X G (c0.fact 39 (f := .glo "minus") rfl), F_minus.kp, (F_minus.bindsN fun _ _ _ _ _ _ us hl => match us, hl with | [_, _], _ => rfl), .nil⟩
    have o_raised_to := ok_raised_to (P := P) (w := w) (base := base) fx (c_made := c_made) (c_times := c_times) (m_Function_curve := m_Function_curve) F_raised_to
    have c_raised_to : Cal P w K mg base 11 "raised_to" (spD K (p_raised_to K)) [] := ⟨_, fd_raised_to, ["function", "count"], [], o_raised_to, He.glo_ok X G (c0.fact 43 (f := .glo "raised_to") rfl), F_raised_to.kp, (F_raised_to.bindsN fun _ _ _ _ _ _ us hl => match us, hl with | [_, _], _ => rfl), .nil⟩
    have o_sum_of := ok_sum_of (P := P) (w := w) (base := base) fx (c_check_both := c_check_both) (c_plus := c_plus) F_sum_of
    have c_sum_of : Cal P w K mg base 11 "sum_of" (spD K (p_sum_of K)) [] := ⟨_, fd_sum_of, ["one", "other"], [], o_sum_of, He.glo_ok X G (c0.fact 47 (f := .glo "sum_of") rfl), F_sum_of.kp, (F_sum_of.bindsN fun _ _ _ _ _ _ us hl => match us, hl with | [_, _], _ => rfl), .nil⟩
    have o_slope := ok_slope (P := P) (w := w) (base := base) fx (c_check_function := c_check_function) (c_slope_by := c_slope_by) F_slope
    have c_slope : Cal P w K mg base 11 "slope" (spD K (p_slope K)) [] := ⟨_, fd_slope, ["function"], [], o_slope, He.glo_ok X G (c0.fact 50 (f := .glo "slope") rfl), F_slope.kp, (F_slope.bindsN fun _ _ _ _ _ _ us hl => match us, hl with | [_], _ => rfl), .nil⟩
    have o_parts := ok_parts (P := P) (w := w) (base := base) fx (c_check_function := c_check_function) (c_parts_by := c_parts_by) F_parts
    have c_parts : Cal P w K mg base 11 "parts" (spD K (p_parts K)) [] := ⟨_, fd_parts, ["one"], [], o_parts, He.glo_ok X G (c0.fact 55 (f := .glo "parts") rfl), F_parts.kp, (F_parts.bindsN fun _ _ _ _ _ _ us hl => match us, hl with | [_], _ => rfl), .nil⟩
    have o_descent_by := ok_descent_by (P := P) (w := w) (base := base) fx (c_parts_by := c_parts_by) F_descent_by
    have c_descent_by : Cal P w K mg base 11 "descent_by" (spD K (p_descent_by K)) [] := ⟨_, fd_descent_by, ["function"], [], o_descent_by, He.glo_ok X G (c0.fact 56 (f := .glo "descent_by") rfl), F_descent_by.kp, (F_descent_by.bindsN fun _ _ _ _ _ _ us hl => match us, hl with | [_], _ => rfl), .nil⟩
    have o_power_of := ok_power_of (P := P) (w := w) (base := base) fx (c_check_function := c_check_function) (c_check_number := c_check_number) (c_raised_to := c_raised_to) (c_is_nought := c_is_nought) (c_back_of := c_back_of) F_power_of
    have c_power_of : Cal P w K mg base 12 "power_of" (spD K (p_power_of_fn K)) [] := ⟨_, fd_power_of, ["function", "exponent"], [], o_power_of, He.glo_ok X G (c0.fact 13 (f := .glo "power_of") rfl), F_power_of.kp, (F_power_of.bindsN fun _ _ _ _ _ _ us hl => match us, hl with | [_, _], _ => rfl), .nil⟩
    have o_less_of := ok_less_of (P := P) (w := w) (base := base) fx (c_check_both := c_check_both) (c_minus := c_minus) F_less_of
    have c_less_of : Cal P w K mg base 12 "less_of" (spD K (p_less_of K)) [] := ⟨_, fd_less_of, ["one", "other"], [], o_less_of, He.glo_ok X G (c0.fact 48 (f := .glo "less_of") rfl), F_less_of.kp, (F_less_of.bindsN fun _ _ _ _ _ _ us hl => match us, hl with | [_, _], _ => rfl), .nil⟩
    have o_power_of_functions := ok_power_of (P := P) (w := w) (base := base) fx (c_check_function := c_check_function) (c_check_number := c_check_number) (c_raised_to := c_raised_to) (c_is_nought := c_is_nought) (c_back_of := c_back_of) F_power_of_functions
    have c_power_of_functions : Cal P w K mg base 12 "power_of_functions" (spD K (p_power_of_fn K)) [] := ⟨_, fd_power_of_functions, ["function", "exponent"], [], o_power_of_functions, He.glo_ok X G (c0.fact 49 (f := .glo "power_of_functions") rfl), F_power_of_functions.kp, (F_power_of_functions.bindsN fun _ _ _ _ _ _ us hl => match us, hl with | [_, _], _ => rfl), .nil⟩
    have o_descent := ok_descent (P := P) (w := w) (base := base) fx (c_check_function := c_check_function) (c_descent_by := c_descent_by) F_descent
    have c_descent : Cal P w K mg base 12 "descent" (spD K (p_descent K)) [] := ⟨_, fd_descent, ["one"], [], o_descent, He.glo_ok X G (c0.fact 57 (f := .glo "descent") rfl), F_descent.kp, (F_descent.bindsN fun _ _ _ _ _ _ us hl => match us, hl with | [_], _ => rfl), .nil⟩
    have o_slope_source := ok_slope_source (P := P) (w := w) (base := base) fx (c_parts_of := c_parts_of) (c_power_of_polys := c_power_of_polys) (c_made := c_made) (c_is_nought := c_is_nought) (c_raised_source := c_raised_source) (c_multiplied := c_multiplied) (c_descent_by := c_descent_by) (c_tops_over := c_tops_over) (c_stretched := c_stretched) (m_Function_curve := m_Function_curve) F_slope_source
    have c_slope_source : Cal P w K mg base 12 "slope_source" (spD K (p_slope_source K)) [] := ⟨_, fd_slope_source, ["function"], [], o_slope_source, He.glo_ok X G (c0.fact 58 (f := .glo "slope_source") rfl), F_slope_source.kp, (F_slope_source.bindsN fun _ _ _ _ _ _ us hl => match us, hl with | [_], _ => rfl), .nil⟩
    have o_whose_slope := ok_whose_slope (P := P) (w := w) (base := base) fx (c_check_function := c_check_function) (c_slope_source := c_slope_source) F_whose_slope
    have c_whose_slope : Cal P w K mg base 13 "whose_slope" (spD K (p_whose_slope K)) [] := ⟨_, fd_whose_slope, ["one"], [], o_whose_slope, He.glo_ok X G (c0.fact 60 (f := .glo "whose_slope") rfl), F_whose_slope.kp, (F_whose_slope.bindsN fun _ _ _ _ _ _ us hl => match us, hl with | [_], _ => rfl), .nil⟩
    have k_whose_slope : CalK P w K mg base 13 "whose_slope" "one" (spD K (p_whose_slope K)) := ⟨_, fd_whose_slope, o_whose_slope, He.glo_ok X G (c0.fact 60 (f := .glo "whose_slope") rfl), F_whose_slope.kp, bindsK F_whose_slope fun _ _ _ _ _ _ ws hl => match ws, hl with | [_], _ => rfl⟩
    have o__law_asked := ok__law_asked (P := P) (w := w) (base := base) fx (k_whose_slope := k_whose_slope) (c__law_seen := c__law_seen) (c__law_nought := c__law_nought) (c_whose_slope := c_whose_slope) (c_parts := c_parts) (c_descent := c_descent) (c__law_parts := c__law_parts) (c__law_same := c__law_same) (c__law_slope := c__law_slope) (c_slope := c_slope) (m_Function___eq__ := m_Function___eq__) F__law_asked
    have c__law_asked : Cal P w K mg base 14 "_law_asked" (spD K (p__law_asked K)) [] := ⟨_, fd__law_asked, ["told", "function"], [], o__law_asked, He.glo_ok X G (c0.fact 86 (f := .glo "_law_asked") rfl), F__law_asked.kp, (F__law_asked.bindsN fun _ _ _ _ _ _ us hl => match us, hl with | [_, _], _ => rfl), .nil⟩
    have o__law_right := ok__law_right (P := P) (w := w) (base := base) fx (c__law_curve := c__law_curve) (c_slope := c_slope) (c_whose_slope := c_whose_slope) (c__law_seen := c__law_seen) (c__law_made := c__law_made) (c_sum_of := c_sum_of) (c_parts := c_parts) (c__law_triple := c__law_triple) (c__law_asked := c__law_asked) (c_less_of := c_less_of) (c_power_of_functions := c_power_of_functions) (m_Function___eq__ := m_Function___eq__) F__law_right
    have c__law_right : Cal P w K mg base 15 "_law_right" (spG K 134 p__law_right) [] := ⟨_, fd__law_right, ["generator"], [], o__law_right, He.glo_ok X G (c0.fact 87 (f := .glo "_law_right") rfl), F__law_right.kp, (F__law_right.bindsN fun _ _ _ _ _ _ us hl => match us, hl with | [_], _ => rfl), .nil⟩
    exact ok_law (P := P) (w := w) (base := base) fx (c__law_right := c__law_right) (c_whose_slope := c_whose_slope) (c_less_of := c_less_of) (c__law_seen := c__law_seen) (c__law_generator := c__law_generator) (c_slope := c_slope) (c_power_of_functions := c_power_of_functions) (c_parts := c_parts) (m_Function___eq__ := m_Function___eq__) (m_Function := m_Function) (m_Curve := m_Curve) F_law
end Cw
open PySem PySem.W PySem.Calls PyProof.Rows
theorem PySem.Challenge.cw_curvewords_k75_whole_slopes_or_none_holds : PySem.Challenge.rw_curvewords_k75_whole_slopes_or_none.Holds := by
  w_on; o_law
  refine HandSHeadRun.head_any (r := OpenLaw.row PySem.Challenge.rw_curvewords_k75_whole_slopes_or_none) (q := view (OpenLaw.row PySem.Challenge.rw_curvewords_k75_whole_slopes_or_none).prog [98]) (H := Cw.hk) (ob := Cw.ob) (M := 20000) (loose := Cw.loose) (d := HandSHeadRun.topDef (OpenLaw.row PySem.Challenge.rw_curvewords_k75_whole_slopes_or_none).prog 98) (kwd := []) Cw.ob_eq
    (by kernel_rfl) (fun s => by kernel_rfl) Cw.run (by kernel_rfl) (by kernel_rfl) (by kernel_rfl) (by rfl) (by first | assumption | decide +kernel) (by decide +kernel) ⟨rfl, rfl, rfl, rfl, rfl, by decide +kernel⟩ ?hw ?hc
  case hw => w_witness2
  case hc =>
    refine L2.walk_ofE (l := PySem.Challenge.rw_curvewords_k75_whole_slopes_or_none) (n := 63) (k := 16) (x := "script") (CX := L2.CX0) rfl (by decide) (by kernel_rfl) ⟨rfl, by decide, by decide⟩ ?F (fun _ _ _ _ z => z)
    intro w mg fa h Y G hmg0
    obtain ⟨K, KX, c0, xk⟩ := Y
    have hmg : mg ("law" : PySem.Str) = some (.ref fa) := by
      have e : (HandSHeadRun.topDef (OpenLaw.row PySem.Challenge.rw_curvewords_k75_whole_slopes_or_none).prog 98).name = ("law" : PySem.Str) := by kernel_rfl
      rw [← e]
      exact hmg0
    obtain ⟨fd, hb, hF⟩ := Cw.facts (P := (PySem.Challenge.rw_curvewords_k75_whole_slopes_or_none).prog) (w := w) KX G hmg c0 xk
    exact ⟨K, fd, _, KX, hb, fun H a ns hl _ hS => ⟨H, [.scr ns], .bl true, L2.Same.refl _, Cw.Reps.one ⟨a, rfl, hS⟩, ⟨ns, rfl, trivial, rfl⟩, fun v F' H' _ r => by cases r; rfl⟩, hF⟩
