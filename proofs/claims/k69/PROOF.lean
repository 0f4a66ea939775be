import PyProof.Rows.All
import Wide.All
import OpenK.AllK
import Wide.FinOn
import HandS.ForMost
import HandS.Wide
import HandS.Style
import HandS.Deep
import HandS.TupAny
import HandS.TupMul
import HandS.IsInst
import HandS.Conv
import HandS.SortRule
import HandS.TupSets
import HandS.Zip
import HandS.Defaults
import KE.KStateDown
import Lean
import HandS.Head0
import HandS.Head1
import HandS.Head2
import HandS.HeadEnd
import HandS.HeadHook1
import HandS.HeadHook2
import KE.GoesMore
import KE.GoesEnumKw
import HandS.SortKw
import KE.DataMinMax
import KE.SortData
import HandS.NoneIn
import PySem.Challenge.RW_keybench_k69_whole_keys_told_back_from_d
set_option Elab.async false
set_option linter.all false
set_option maxRecDepth 100000
set_option maxHeartbeats 4000000
/-! a data layer: data, what a value stands for, the state by slots, expressions and statements over data -/
namespace Kb
open PySem PySem.Spec PyProof.Rows L2
/-- plain data -/
inductive Dat where
  | non | bl (b : Bool) | int (i : Int) | str (x : Str)
  | tup (l : List Dat) | lst (l : List Dat)
  | obj (o C : Addr) (ns : List Str) (l : List Dat)
/-- the attributes of an instance, in their order -/
abbrev tabKeys : List Str := ["size", "rows", "goal", "columns", "basis", "denominator"]
/-- the addresses that may change -/
abbrev Mu := Addr → Prop
mutual
def At (M : Mu) (H : Hp) : Dat → V → Prop
  | .non, v => v = .non
  | .bl b, v => v = .bl b
  | .int i, v => v = .int i
  | .str x, v => v = .str x
  | .tup l, v => ∃ a vs, v = .ref a ∧ ¬ M a ∧ H a = some (.tup vs) ∧ Ats M H l vs
  | .lst l, v => ∃ a vs, v = .ref a ∧ ¬ M a ∧ H a = some (.lst vs) ∧ Ats M H l vs
  | .obj a C ns l, v => ∃ dx fs vs, v = .ref a ∧ ¬ M a ∧ H a = some (.ins C dx fs) ∧ (∀ f ∈ fs.map (·.1), f ∈ tabKeys) ∧ ns.map (fun f => fs.lookup f) = vs.map some ∧ Ats M H l vs
def Ats (M : Mu) (H : Hp) : List Dat → List V → Prop
  | [], vs => vs = []
  | d :: ds, vs => ∃ v r, vs = v :: r ∧ At M H d v ∧ Ats M H ds r
end
mutual
theorem At.gen {M M' : Mu} {H H' : Hp} (k : ∀ a o, ¬ M a → H a = some o → ¬ M' a ∧ H' a = some o) : ∀ {d : Dat} {v : V}, At M H d v → At M' H' d v
  | .non, _, h => h
  | .bl _, _, h => h
  | .int _, _, h => h
  | .str _, _, h => h
  | .tup l, v, h => by
    unfold At at h ⊢
    obtain ⟨a, vs, e, n, ha, hs⟩ := h
    exact ⟨a, vs, e, (k a _ n ha).1, (k a _ n ha).2, Ats.gen k hs⟩
  | .lst l, v, h => by
    unfold At at h ⊢
    obtain ⟨a, vs, e, n, ha, hs⟩ := h
    exact ⟨a, vs, e, (k a _ n ha).1, (k a _ n ha).2, Ats.gen k hs⟩
  | .obj a C ns l, v, h => by
    unfold At at h ⊢
    obtain ⟨dx, fs, vs, e, n, ha, ek, en, hs⟩ := h
    exact ⟨dx, fs, vs, e, (k a _ n ha).1, (k a _ n ha).2, ek, en, Ats.gen k hs⟩
theorem Ats.gen {M M' : Mu} {H H' : Hp} (k : ∀ a o, ¬ M a → H a = some o → ¬ M' a ∧ H' a = some o) : ∀ {ds : List Dat} {vs : List V}, Ats M H ds vs → Ats M' H' ds vs
  | [], _, h => h
  | d :: ds, vs, h => by
    unfold Ats at h ⊢
    obtain ⟨v, r, e, hd, hs⟩ := h
    exact ⟨v, r, e, At.gen k hd, Ats.gen k hs⟩
end
theorem At.mono {M M' : Mu} {H H' : Hp} (m : ∀ a, M' a → M a) (k : ∀ a o, ¬ M a → H a = some o → H' a = some o) {d : Dat} {v : V} (h : At M H d v) : At M' H' d v := h.gen fun a o n e => ⟨fun z => n (m a z), k a o n e⟩
theorem Ats.mono {M M' : Mu} {H H' : Hp} (m : ∀ a, M' a → M a) (k : ∀ a o, ¬ M a → H a = some o → H' a = some o) {d : List Dat} {v : List V} (h : Ats M H d v) : Ats M' H' d v := h.gen fun a o n e => ⟨fun z => n (m a z), k a o n e⟩
/-- a fresh address is none that is reached -/
theorem At.more {M : Mu} {H : Hp} {p : Addr} (hp : H p = none) {d : Dat} {v : V} (h : At M H d v) : At (fun a => M a ∨ a = p) H d v := h.gen fun a o n e => ⟨fun z => z.elim n fun q => (by rw [q, hp] at e; cases e), e⟩
theorem Ats.more {M : Mu} {H : Hp} {p : Addr} (hp : H p = none) {d : List Dat} {v : List V} (h : Ats M H d v) : Ats (fun a => M a ∨ a = p) H d v := h.gen fun a o n e => ⟨fun z => z.elim n fun q => (by rw [q, hp] at e; cases e), e⟩
theorem At.shift {M1 M2 : Mu} {H1 H2 : Hp} (k : ∀ a o, ¬ M1 a → H1 a = some o → H2 a = some o) (m : ∀ a, M2 a → M1 a ∨ H1 a = none) {d : Dat} {v : V} (h : At M1 H1 d v) : At M2 H2 d v :=
  h.gen fun a o n e => ⟨fun z => (m a z).elim n fun q => (by rw [q] at e; cases e), k a o n e⟩
theorem Ats.shift {M1 M2 : Mu} {H1 H2 : Hp} (k : ∀ a o, ¬ M1 a → H1 a = some o → H2 a = some o) (m : ∀ a, M2 a → M1 a ∨ H1 a = none) {d : List Dat} {v : List V} (h : Ats M1 H1 d v) : Ats M2 H2 d v :=
  h.gen fun a o n e => ⟨fun z => (m a z).elim n fun q => (by rw [q] at e; cases e), k a o n e⟩
section
variable {M : Mu} {H H' : Hp}
theorem Ats.nil : Ats M H [] [] := by unfold Ats; rfl
theorem Ats.cons {d : Dat} {ds : List Dat} {v : V} {vs : List V} (h : At M H d v) (r : Ats M H ds vs) : Ats M H (d :: ds) (v :: vs) := by unfold Ats; exact ⟨v, vs, rfl, h, r⟩
theorem Ats.nil_inv {vs : List V} (h : Ats M H [] vs) : vs = [] := by unfold Ats at h; exact h
theorem Ats.cons_inv {d : Dat} {ds : List Dat} {vs : List V} (h : Ats M H (d :: ds) vs) : ∃ v r, vs = v :: r ∧ At M H d v ∧ Ats M H ds r := by unfold Ats at h; exact h
theorem Ats.len : ∀ {ds : List Dat} {vs : List V}, Ats M H ds vs → vs.length = ds.length
  | [], vs, h => by rw [h.nil_inv]; rfl
  | d :: ds, vs, h => by
    obtain ⟨v, r, rfl, _, hs⟩ := h.cons_inv
    rw [List.length_cons, List.length_cons, Ats.len hs]
theorem Ats.get : ∀ {ds : List Dat} {vs : List V} {i : Nat} {d : Dat}, Ats M H ds vs → ds[i]? = some d → ∃ v, vs[i]? = some v ∧ At M H d v
  | [], _, _, _, _, e => by simp at e
  | d :: ds, vs, 0, x, h, e => by
    obtain ⟨v, r, rfl, hv, hs⟩ := h.cons_inv
    simp at e
    subst e
    exact ⟨v, rfl, hv⟩
  | d :: ds, vs, i + 1, x, h, e => by
    obtain ⟨v, r, rfl, hv, hs⟩ := h.cons_inv
    obtain ⟨u, e1, e2⟩ := Ats.get (i := i) hs (by simpa using e)
    exact ⟨u, by simpa using e1, e2⟩
theorem Ats.getv {ds : List Dat} {vs : List V} {i : Nat} {v : V} (h : Ats M H ds vs) (e : vs[i]? = some v) : ∃ d, ds[i]? = some d ∧ At M H d v := by
  have hi : i < ds.length := by rw [← h.len]; exact (List.getElem?_eq_some_iff.mp e).1
  obtain ⟨u, e1, e2⟩ := h.get (List.getElem?_eq_getElem hi)
  rw [e] at e1
  cases e1
  exact ⟨_, List.getElem?_eq_getElem hi, e2⟩
theorem Ats.app : ∀ {ds es : List Dat} {vs us : List V}, Ats M H ds vs → Ats M H es us → Ats M H (ds ++ es) (vs ++ us)
  | [], es, vs, us, h, g => by rw [h.nil_inv]; exact g
  | d :: ds, es, vs, us, h, g => by
    obtain ⟨v, r, rfl, hv, hs⟩ := h.cons_inv
    exact Ats.cons hv (Ats.app hs g)
theorem Ats.one {d : Dat} {v : V} (h : At M H d v) : Ats M H [d] [v] := Ats.cons h Ats.nil
theorem Ats.set : ∀ {ds : List Dat} {vs : List V} {d : Dat} {v : V} (j : Nat), Ats M H ds vs → At M H d v → Ats M H (ds.set j d) (vs.set j v)
  | [], vs, _, _, _, h, _ => by rw [h.nil_inv]; exact Ats.nil
  | d :: ds, vs, x, u, 0, h, g => by
    obtain ⟨v, r, rfl, hv, hs⟩ := h.cons_inv
    exact Ats.cons g hs
  | d :: ds, vs, x, u, j + 1, h, g => by
    obtain ⟨v, r, rfl, hv, hs⟩ := h.cons_inv
    exact Ats.cons hv (Ats.set j hs g)
theorem Ats.take : ∀ {ds : List Dat} {vs : List V} (n : Nat), Ats M H ds vs → Ats M H (ds.take n) (vs.take n)
  | _, _, 0, _ => by rw [List.take_zero, List.take_zero]; exact Ats.nil
  | [], vs, n + 1, h => by rw [h.nil_inv]; exact Ats.nil
  | d :: ds, vs, n + 1, h => by
    obtain ⟨v, r, rfl, hv, hs⟩ := h.cons_inv
    exact Ats.cons hv (Ats.take n hs)
theorem Ats.drop : ∀ {ds : List Dat} {vs : List V} (n : Nat), Ats M H ds vs → Ats M H (ds.drop n) (vs.drop n)
  | _, _, 0, h => h
  | [], vs, n + 1, h => by rw [h.nil_inv]; exact Ats.nil
  | d :: ds, vs, n + 1, h => by
    obtain ⟨v, r, rfl, hv, hs⟩ := h.cons_inv
    exact Ats.drop n hs
theorem Ats.rev : ∀ {ds : List Dat} {vs : List V}, Ats M H ds vs → Ats M H ds.reverse vs.reverse
  | [], vs, h => by rw [h.nil_inv]; exact Ats.nil
  | d :: ds, vs, h => by
    obtain ⟨v, r, rfl, hv, hs⟩ := h.cons_inv
    rw [List.reverse_cons, List.reverse_cons]
    exact Ats.app (Ats.rev hs) (Ats.one hv)
theorem Ats.map {α : Type} {f : α → Dat} {g : α → V} : ∀ {l : List α}, (∀ x ∈ l, At M H (f x) (g x)) → Ats M H (l.map f) (l.map g)
  | [], _ => Ats.nil
  | x :: l, h => Ats.cons (h x List.mem_cons_self) (Ats.map fun y hy => h y (List.mem_cons_of_mem _ hy))
theorem Ats.of_get : ∀ {ds : List Dat} {vs : List V}, vs.length = ds.length → (∀ (i : Nat) d v, ds[i]? = some d → vs[i]? = some v → At M H d v) → Ats M H ds vs
  | [], [], _, _ => Ats.nil
  | [], _ :: _, e, _ => by simp at e
  | _ :: _, [], e, _ => by simp at e
  | d :: ds, v :: vs, e, h => Ats.cons (h 0 d v rfl rfl) (Ats.of_get (by simpa using e) fun i x u e1 e2 => h (i + 1) x u (by simpa using e1) (by simpa using e2))
theorem at_int {i : Int} {v : V} (h : At M H (.int i) v) : v = .int i := by unfold At at h; exact h
theorem at_bl {b : Bool} {v : V} (h : At M H (.bl b) v) : v = .bl b := by unfold At at h; exact h
theorem at_str {x : Str} {v : V} (h : At M H (.str x) v) : v = .str x := by unfold At at h; exact h
theorem at_non {v : V} (h : At M H .non v) : v = .non := by unfold At at h; exact h
theorem At.int {i : Int} : At M H (.int i) (.int i) := by unfold At; rfl
theorem At.bl {b : Bool} : At M H (.bl b) (.bl b) := by unfold At; rfl
theorem At.str {x : Str} : At M H (.str x) (.str x) := by unfold At; rfl
theorem At.non : At M H .non .non := by unfold At; rfl
theorem at_tup {l : List Dat} {v : V} (h : At M H (.tup l) v) : ∃ a vs, v = .ref a ∧ ¬ M a ∧ H a = some (.tup vs) ∧ Ats M H l vs := by unfold At at h; exact h
theorem at_lst {l : List Dat} {v : V} (h : At M H (.lst l) v) : ∃ a vs, v = .ref a ∧ ¬ M a ∧ H a = some (.lst vs) ∧ Ats M H l vs := by unfold At at h; exact h
theorem at_obj {a C : Addr} {ns : List Str} {l : List Dat} {v : V} (h : At M H (.obj a C ns l) v) : ∃ dx fs vs, v = .ref a ∧ ¬ M a ∧ H a = some (.ins C dx fs) ∧ (∀ f ∈ fs.map (·.1), f ∈ tabKeys) ∧ ns.map (fun f => fs.lookup f) = vs.map some ∧ Ats M H l vs := by unfold At at h; exact h
theorem At.obj {C a dx : Addr} {fs : List (Str × V)} {ns : List Str} {l : List Dat} {vs : List V} (n : ¬ M a) (h : H a = some (.ins C dx fs)) (k : (∀ f ∈ fs.map (·.1), f ∈ tabKeys)) (e : ns.map (fun f => fs.lookup f) = vs.map some) (s : Ats M H l vs) : At M H (.obj a C ns l) (.ref a) := by unfold At; exact ⟨dx, fs, vs, rfl, n, h, k, e, s⟩
theorem At.tup {l : List Dat} {a : Addr} {vs : List V} (n : ¬ M a) (h : H a = some (.tup vs)) (s : Ats M H l vs) : At M H (.tup l) (.ref a) := by unfold At; exact ⟨a, vs, rfl, n, h, s⟩
theorem At.lst {l : List Dat} {a : Addr} {vs : List V} (n : ¬ M a) (h : H a = some (.lst vs)) (s : Ats M H l vs) : At M H (.lst l) (.ref a) := by unfold At; exact ⟨a, vs, rfl, n, h, s⟩
theorem At.same (e : Same H H') {d : Dat} {v : V} (h : At M H d v) : At M H' d v := h.mono (fun _ z => z) fun a o _ q => e a o q
theorem Ats.same (e : Same H H') {ds : List Dat} {vs : List V} (h : Ats M H ds vs) : Ats M H' ds vs := h.mono (fun _ z => z) fun a o _ q => e a o q
theorem Ats.ints {ns : List Int} : ∀ {vs : List V}, Ats M H (ns.map Dat.int) vs → vs = ns.map V.int := by
  induction ns with
  | nil => intro vs h; rw [h.nil_inv]; rfl
  | cons n ns ih =>
    intro vs h
    obtain ⟨v, r, rfl, hv, hs⟩ := h.cons_inv
    rw [at_int hv, ih hs]
    rfl
theorem Ats.of_ints {ns : List Int} : Ats M H (ns.map Dat.int) (ns.map V.int) := Ats.map fun _ _ => At.int
theorem Ats.bls {ns : List Bool} : ∀ {vs : List V}, Ats M H (ns.map Dat.bl) vs → vs = ns.map V.bl := by
  induction ns with
  | nil => intro vs h; rw [h.nil_inv]; rfl
  | cons n ns ih =>
    intro vs h
    obtain ⟨v, r, rfl, hv, hs⟩ := h.cons_inv
    rw [at_bl hv, ih hs]
    rfl
end
theorem same_new {H : Hp} {p : Addr} {o : HO} (h : H p = none) : Same H (upd H p o) := fun b x e => by
  rw [upd_ne (ne_of_none e h)]
  exact e
/-! ### the state that a body may change beyond its own: W, told by J -/
structure Wd where
  W : Mu
  F : Mu
  J : Nat → Hp → Prop
  wf : ∀ a, W a → F a
  js : ∀ n H H', J n H → Same H H' → J n H'
  jm : ∀ n H l o, J n H → ¬ F l → J n (upd H l o)
  ja : ∀ n H a, J n H → F a → ∃ o, H a = some o
/-- nothing -/
def wd0 : Wd := ⟨fun _ => False, fun _ => False, fun _ _ => True, fun _ h => h, fun _ _ _ _ _ => trivial, fun _ _ _ _ _ _ => trivial, fun _ _ _ _ h => h.elim⟩
/-- all that was is so but W -/
def Kw (g : Wd) (H H' : Hp) : Prop := ∀ a o, ¬ g.W a → H a = some o → H' a = some o
theorem Kw.refl {g : Wd} (H : Hp) : Kw g H H := fun _ _ _ h => h
theorem Kw.trans {g : Wd} {H H1 H2 : Hp} (a : Kw g H H1) (b : Kw g H1 H2) : Kw g H H2 := fun c o n h => b c o n (a c o n h)
theorem Kw.of {g : Wd} {H H' : Hp} (e : Same H H') : Kw g H H' := fun a o _ h => e a o h
theorem Kw.same {H H' : Hp} (e : Kw wd0 H H') : Same H H' := fun a o h => e a o (fun z => z) h
inductive Sl where
  | no | dat (d : Dat) | own (l : List Dat) | raw (a : Addr)
abbrev En := List Sl
def Mx (M : Mu) (ad : Nat → Addr) (ρ : En) : Mu := fun a => M a ∨ ∃ (i : Nat) (l : List Dat), ρ[i]? = some (.own l) ∧ ad i = a
structure EnvOk (g : Wd) (M : Mu) (Hb : Hp) (ad : Nat → Addr) (n : Nat) (σ : L2.St) (H : Hp) (ρ : En) : Prop where
  kp : Kw g Hb H
  j : g.J n H
  wm : ∀ a, g.W a → M a
  al : ∀ a, M a → ∃ o, H a = some o
  len : σ.length = ρ.length
  dat : ∀ (i : Nat) d, ρ[i]? = some (.dat d) → ∃ v, σ[i]? = some (some v) ∧ At (Mx M ad ρ) H d v
  own : ∀ (i : Nat) ds, ρ[i]? = some (.own ds) → σ[i]? = some (some (.ref (ad i))) ∧ Hb (ad i) = none ∧ ¬ M (ad i) ∧ ¬ g.F (ad i) ∧ ∃ vs, H (ad i) = some (.lst vs) ∧ Ats (Mx M ad ρ) H ds vs
  raw : ∀ (i : Nat) a, ρ[i]? = some (.raw a) → σ[i]? = some (some (.ref a))
  inj : ∀ (i j : Nat) ds es, ρ[i]? = some (.own ds) → ρ[j]? = some (.own es) → ad i = ad j → i = j
section
variable {g : Wd} {M : Mu} {Hb H H' : Hp} {ad : Nat → Addr} {n n' : Nat} {σ : L2.St} {ρ : En}
theorem Mx.m {a : Addr} (h : M a) : Mx M ad ρ a := .inl h
theorem EnvOk.mal (E : EnvOk g M Hb ad n σ H ρ) {a : Addr} (h : Mx M ad ρ a) : ∃ o, H a = some o := by
  rcases h with h | ⟨i, l, e, q⟩
  · exact E.al a h
  · obtain ⟨_, _, _, _, vs, h, _⟩ := E.own i l e
    rw [q] at h
    exact ⟨_, h⟩
theorem EnvOk.mfresh (E : EnvOk g M Hb ad n σ H ρ) {p : Addr} (h : H p = none) : ¬ Mx M ad ρ p := fun z => by
  obtain ⟨o, e⟩ := E.mal z
  rw [h] at e
  cases e
theorem EnvOk.ffresh (E : EnvOk g M Hb ad n σ H ρ) {p : Addr} (h : H p = none) : ¬ g.F p := fun z => by
  obtain ⟨o, e⟩ := g.ja n H p E.j z
  rw [h] at e
  cases e
theorem EnvOk.wfresh (E : EnvOk g M Hb ad n σ H ρ) {p : Addr} (h : H p = none) : ¬ g.W p := fun z => E.ffresh h (g.wf p z)
theorem EnvOk.bfresh (E : EnvOk g M Hb ad n σ H ρ) {p : Addr} (h : H p = none) : Hb p = none := by
  cases e : Hb p with
  | none => rfl
  | some o =>
    rw [E.kp p o (E.wfresh h) e] at h
    cases h
theorem EnvOk.wx (E : EnvOk g M Hb ad n σ H ρ) : ∀ a, g.W a → Mx M ad ρ a := fun a h => .inl (E.wm a h)
theorem EnvOk.at_ (E : EnvOk g M Hb ad n σ H ρ) (k : Kw g H H') {d : Dat} {v : V} (h : At (Mx M ad ρ) H d v) : At (Mx M ad ρ) H' d v :=
  h.mono (fun _ z => z) fun a o na q => k a o (fun z => na (E.wx a z)) q
theorem EnvOk.ats (E : EnvOk g M Hb ad n σ H ρ) (k : Kw g H H') {d : List Dat} {v : List V} (h : Ats (Mx M ad ρ) H d v) : Ats (Mx M ad ρ) H' d v :=
  h.mono (fun _ z => z) fun a o na q => k a o (fun z => na (E.wx a z)) q
/-- behind an evaluation -/
theorem EnvOk.keep (E : EnvOk g M Hb ad n σ H ρ) (k : Kw g H H') (j : g.J n' H') : EnvOk g M Hb ad n' σ H' ρ where
  kp := E.kp.trans k
  j := j
  wm := E.wm
  al := fun a h => by
    obtain ⟨o, e⟩ := E.al a h
    by_cases w : g.W a
    · exact g.ja n' H' a j (g.wf a w)
    · exact ⟨o, k a o w e⟩
  len := E.len
  dat := fun i d e => by
    obtain ⟨v, h1, h2⟩ := E.dat i d e
    exact ⟨v, h1, E.at_ k h2⟩
  own := fun i ds e => by
    obtain ⟨h1, h2, h3, h4, vs, h5, h6⟩ := E.own i ds e
    exact ⟨h1, h2, h3, h4, vs, k _ _ (fun z => h3 (E.wm _ z)) h5, E.ats k h6⟩
  raw := E.raw
  inj := E.inj
theorem EnvOk.same (E : EnvOk g M Hb ad n σ H ρ) (k : Same H H') : EnvOk g M Hb ad n σ H' ρ := E.keep (Kw.of k) (g.js _ _ _ E.j k)
theorem getElem?_set' {α : Type} {l : List α} {i j : Nat} {x y : α} (h : (l.set i x)[j]? = some y) : (j = i ∧ y = x) ∨ (j ≠ i ∧ l[j]? = some y) := by
  by_cases e : i = j
  · subst e
    rw [List.getElem?_set] at h
    simp at h
    exact .inl ⟨rfl, h.2.symm⟩
  · rw [List.getElem?_set_ne e] at h
    exact .inr ⟨fun z => e z.symm, h⟩
theorem set_at {α : Type} {l : List α} {i : Nat} (x : α) (h : i < l.length) : (l.set i x)[i]? = some x := by
  rw [List.getElem?_set]
  simp [h]
/-- fewer own slots: fewer that may change -/
theorem Mx.set_no {i : Nat} {s : Sl} (hs : ∀ l, s ≠ .own l) : ∀ a, Mx M ad (ρ.set i s) a → Mx M ad ρ a := fun a h => by
  rcases h with h | ⟨j, l, e, q⟩
  · exact .inl h
  · rcases getElem?_set' e with ⟨_, z⟩ | ⟨_, z⟩
    · exact absurd z.symm (hs l)
    · exact .inr ⟨j, l, z, q⟩
/-- a slot is given a datum (or is forgotten) -/
theorem EnvOk.set (E : EnvOk g M Hb ad n σ H ρ) {i : Nat} {d : Dat} {v : V} (h : At (Mx M ad ρ) H d v) : EnvOk g M Hb ad n (σ.set i (some v)) H (ρ.set i (.dat d)) := by
  have mm := Mx.set_no (M := M) (ad := ad) (ρ := ρ) (i := i) (s := .dat d) (fun _ => by intro z; cases z)
  refine ⟨E.kp, E.j, E.wm, E.al, by rw [List.length_set, List.length_set]; exact E.len, fun k x e => ?_, fun k ds e => ?_, fun k a e => ?_, fun k l ds es e1 e2 e3 => ?_⟩
  · rcases getElem?_set' e with ⟨ek, z⟩ | ⟨nk, z⟩
    · cases z
      subst ek
      have hk : k < ρ.length := by have := (List.getElem?_eq_some_iff.mp e).1; rwa [List.length_set] at this
      exact ⟨v, set_at _ (by rw [E.len]; exact hk), h.mono mm fun _ _ _ q => q⟩
    · obtain ⟨u, h1, h2⟩ := E.dat k x z
      exact ⟨u, by rw [List.getElem?_set_ne (Ne.symm nk)]; exact h1, h2.mono mm fun _ _ _ q => q⟩
  · rcases getElem?_set' e with ⟨_, z⟩ | ⟨nk, z⟩
    · cases z
    · obtain ⟨h1, h2, h3, h4, vs, h5, h6⟩ := E.own k ds z
      exact ⟨by rw [List.getElem?_set_ne (Ne.symm nk)]; exact h1, h2, h3, h4, vs, h5, h6.mono mm fun _ _ _ q => q⟩
  · rcases getElem?_set' e with ⟨_, z⟩ | ⟨nk, z⟩
    · cases z
    · rw [List.getElem?_set_ne (Ne.symm nk)]
      exact E.raw k a z
  · rcases getElem?_set' e1 with ⟨_, z⟩ | ⟨_, z⟩
    · cases z
    · rcases getElem?_set' e2 with ⟨_, z2⟩ | ⟨_, z2⟩
      · cases z2
      · exact E.inj k l ds es z z2 e3
theorem EnvOk.setRaw (E : EnvOk g M Hb ad n σ H ρ) {i : Nat} {b : Addr} : EnvOk g M Hb ad n (σ.set i (some (.ref b))) H (ρ.set i (.raw b)) := by
  have mm := Mx.set_no (M := M) (ad := ad) (ρ := ρ) (i := i) (s := .raw b) (fun _ => by intro z; cases z)
  refine ⟨E.kp, E.j, E.wm, E.al, by rw [List.length_set, List.length_set]; exact E.len, fun k x e => ?_, fun k ds e => ?_, fun k a e => ?_, fun k l ds es e1 e2 e3 => ?_⟩
  · rcases getElem?_set' e with ⟨ek, z⟩ | ⟨nk, z⟩
    · cases z
    · obtain ⟨u, h1, h2⟩ := E.dat k x z
      exact ⟨u, by rw [List.getElem?_set_ne (Ne.symm nk)]; exact h1, h2.mono mm fun _ _ _ q => q⟩
  · rcases getElem?_set' e with ⟨_, z⟩ | ⟨nk, z⟩
    · cases z
    · obtain ⟨h1, h2, h3, h4, vs, h5, h6⟩ := E.own k ds z
      exact ⟨by rw [List.getElem?_set_ne (Ne.symm nk)]; exact h1, h2, h3, h4, vs, h5, h6.mono mm fun _ _ _ q => q⟩
  · rcases getElem?_set' e with ⟨ek, z⟩ | ⟨nk, z⟩
    · cases z
      subst ek
      have hk : k < ρ.length := by have := (List.getElem?_eq_some_iff.mp e).1; rwa [List.length_set] at this
      exact set_at _ (by rw [E.len]; exact hk)
    · rw [List.getElem?_set_ne (Ne.symm nk)]
      exact E.raw k a z
  · rcases getElem?_set' e1 with ⟨_, z⟩ | ⟨_, z⟩
    · cases z
    · rcases getElem?_set' e2 with ⟨_, z2⟩ | ⟨_, z2⟩
      · cases z2
      · exact E.inj k l ds es z z2 e3
/-- less is known -/
theorem EnvOk.less (E : EnvOk g M Hb ad n σ H ρ) {σ' : L2.St} {ρ' : En} (hl : σ'.length = ρ'.length) (hr : ∀ (i : Nat) s, ρ'[i]? = some s → s = .no ∨ (ρ[i]? = some s ∧ σ'[i]? = σ[i]?)) : EnvOk g M Hb ad n σ' H ρ' := by
  have mm : ∀ a, Mx M ad ρ' a → Mx M ad ρ a := fun a h => by
    rcases h with h | ⟨j, l, e, q⟩
    · exact .inl h
    · rcases hr j _ e with z | ⟨z, _⟩
      · cases z
      · exact .inr ⟨j, l, z, q⟩
  refine ⟨E.kp, E.j, E.wm, E.al, hl, fun k x e => ?_, fun k ds e => ?_, fun k a e => ?_, fun k l ds es e1 e2 e3 => ?_⟩
  · rcases hr k _ e with z | ⟨z, y⟩
    · cases z
    · obtain ⟨u, h1, h2⟩ := E.dat k x z
      exact ⟨u, y.trans h1, h2.mono mm fun _ _ _ q => q⟩
  · rcases hr k _ e with z | ⟨z, y⟩
    · cases z
    · obtain ⟨h1, h2, h3, h4, vs, h5, h6⟩ := E.own k ds z
      exact ⟨y.trans h1, h2, h3, h4, vs, h5, h6.mono mm fun _ _ _ q => q⟩
  · rcases hr k _ e with z | ⟨z, y⟩
    · cases z
    · exact y.trans (E.raw k a z)
  · rcases hr k _ e1 with z | ⟨z, _⟩
    · cases z
    · rcases hr l _ e2 with z2 | ⟨z2, _⟩
      · cases z2
      · exact E.inj k l ds es z z2 e3
/-- an own list is no more to change -/
theorem EnvOk.freeze (E : EnvOk g M Hb ad n σ H ρ) {i : Nat} {xs : List Dat} (hi : ρ[i]? = some (.own xs)) : EnvOk g M Hb ad n σ H (ρ.set i (.dat (.lst xs))) := by
  have mm := Mx.set_no (M := M) (ad := ad) (ρ := ρ) (i := i) (s := .dat (.lst xs)) (fun _ => by intro z; cases z)
  obtain ⟨o1, o2, o3, o4, vs, o5, o6⟩ := E.own i xs hi
  have nm : ¬ Mx M ad (ρ.set i (.dat (.lst xs))) (ad i) := fun z => by
    rcases z with z | ⟨j, l, e, q⟩
    · exact o3 z
    · rcases getElem?_set' e with ⟨_, z⟩ | ⟨nj, z⟩
      · cases z
      · exact nj (E.inj j i _ _ z hi q)
  refine ⟨E.kp, E.j, E.wm, E.al, by rw [List.length_set]; exact E.len, fun k x e => ?_, fun k ds e => ?_, fun k a e => ?_, fun k l ds es e1 e2 e3 => ?_⟩
  · rcases getElem?_set' e with ⟨ek, z⟩ | ⟨nk, z⟩
    · cases z
      subst ek
      exact ⟨_, o1, At.lst nm o5 (o6.mono mm fun _ _ _ q => q)⟩
    · obtain ⟨u, h1, h2⟩ := E.dat k x z
      exact ⟨u, h1, h2.mono mm fun _ _ _ q => q⟩
  · rcases getElem?_set' e with ⟨_, z⟩ | ⟨nk, z⟩
    · cases z
    · obtain ⟨h1, h2, h3, h4, vs, h5, h6⟩ := E.own k ds z
      exact ⟨h1, h2, h3, h4, vs, h5, h6.mono mm fun _ _ _ q => q⟩
  · rcases getElem?_set' e with ⟨_, z⟩ | ⟨nk, z⟩
    · cases z
    · exact E.raw k a z
  · rcases getElem?_set' e1 with ⟨_, z⟩ | ⟨_, z⟩
    · cases z
    · rcases getElem?_set' e2 with ⟨_, z2⟩ | ⟨_, z2⟩
      · cases z2
      · exact E.inj k l ds es z z2 e3
/-- an own list changes -/
theorem EnvOk.mut (E : EnvOk g M Hb ad n σ H ρ) {i : Nat} {xs ys : List Dat} {us : List V} (hi : ρ[i]? = some (.own xs)) (hs : Ats (Mx M ad ρ) H ys us) : EnvOk g M Hb ad n σ (upd H (ad i) (.lst us)) (ρ.set i (.own ys)) := by
  obtain ⟨o1, o2, o3, o4, vs, o5, o6⟩ := E.own i xs hi
  have hil : i < ρ.length := (List.getElem?_eq_some_iff.mp hi).1
  have mm : ∀ a, Mx M ad (ρ.set i (.own ys)) a → Mx M ad ρ a := fun a h => by
    rcases h with h | ⟨j, l, e, q⟩
    · exact .inl h
    · rcases getElem?_set' e with ⟨ej, z⟩ | ⟨_, z⟩
      · rw [ej] at q
        exact .inr ⟨i, xs, hi, q⟩
      · exact .inr ⟨j, l, z, q⟩
  have hx : Mx M ad ρ (ad i) := .inr ⟨i, xs, hi, rfl⟩
  have kk : ∀ a o, ¬ Mx M ad ρ a → H a = some o → (upd H (ad i) (.lst us)) a = some o := fun a o na q => by
    rw [upd_ne (fun z => na (by rw [z]; exact hx))]
    exact q
  refine ⟨fun a o w q => ?_, g.jm _ _ _ _ E.j o4, E.wm, fun a h => ?_, by rw [List.length_set]; exact E.len, fun k x e => ?_, fun k ds e => ?_, fun k a e => ?_, fun k l ds es e1 e2 e3 => ?_⟩
  · rw [upd_ne (ne_of_none q o2)]
    exact E.kp a o w q
  · obtain ⟨o, e⟩ := E.al a h
    exact ⟨o, by rw [upd_ne (fun z => o3 (by rw [← z]; exact h))]; exact e⟩
  · rcases getElem?_set' e with ⟨ek, z⟩ | ⟨nk, z⟩
    · cases z
    · obtain ⟨u, h1, h2⟩ := E.dat k x z
      exact ⟨u, h1, h2.mono mm kk⟩
  · rcases getElem?_set' e with ⟨ek, z⟩ | ⟨nk, z⟩
    · cases z
      subst ek
      exact ⟨o1, o2, o3, o4, us, upd_same, hs.mono mm kk⟩
    · obtain ⟨h1, h2, h3, h4, vs, h5, h6⟩ := E.own k ds z
      exact ⟨h1, h2, h3, h4, vs, by rw [upd_ne (fun q => nk (E.inj k i _ _ z hi q))]; exact h5, h6.mono mm kk⟩
  · rcases getElem?_set' e with ⟨_, z⟩ | ⟨nk, z⟩
    · cases z
    · exact E.raw k a z
  · have f : ∀ (k : Nat) ds, (ρ.set i (.own ys))[k]? = some (.own ds) → ∃ ds', ρ[k]? = some (.own ds') := fun k ds e => by
      rcases getElem?_set' e with ⟨ek, z⟩ | ⟨_, z⟩
      · rw [ek]
        exact ⟨xs, hi⟩
      · exact ⟨ds, z⟩
    obtain ⟨d1, q1⟩ := f k ds e1
    obtain ⟨d2, q2⟩ := f l es e2
    exact E.inj k l d1 d2 q1 q2 e3
def adSet (ad : Nat → Addr) (i : Nat) (p : Addr) : Nat → Addr := fun m => if m = i then p else ad m
theorem adSet_same {i : Nat} {p : Addr} : adSet ad i p i = p := if_pos rfl
theorem adSet_ne {i : Nat} {p : Addr} {m : Nat} (h : m ≠ i) : adSet ad i p m = ad m := if_neg h
/-- a slot is given a new list, to change -/
theorem EnvOk.setOwn (E : EnvOk g M Hb ad n σ H ρ) {i : Nat} {p : Addr} {ys : List Dat} {us : List V} (hi : i < ρ.length) (hp : H p = none) (k : Kw g H H') (j : g.J n' H') (h' : H' p = some (.lst us)) (hs : Ats (fun a => Mx M ad ρ a ∨ a = p) H' ys us) :
    EnvOk g M Hb (adSet ad i p) n' (σ.set i (some (.ref p))) H' (ρ.set i (.own ys)) := by
  have E' := E.keep k j
  have adi : (adSet ad i p) i = p := adSet_same
  have adn : ∀ m, m ≠ i → (adSet ad i p) m = ad m := fun m h => adSet_ne h
  have mm : ∀ a, Mx M (adSet ad i p) (ρ.set i (.own ys)) a → (Mx M ad ρ a ∨ a = p) := fun a h => by
    rcases h with h | ⟨m, l, e, q⟩
    · exact .inl (.inl h)
    · rcases getElem?_set' e with ⟨em, z⟩ | ⟨nm, z⟩
      · rw [em, adi] at q
        exact .inr q.symm
      · rw [adn m nm] at q
        exact .inl (.inr ⟨m, l, z, q⟩)
  have up : ∀ {d : Dat} {v : V}, At (Mx M ad ρ) H d v → At (Mx M (adSet ad i p) (ρ.set i (.own ys))) H' d v := fun {d v} h =>
    (h.more hp).mono mm fun a o na q => k a o (fun w => na (.inl (E.wx a w))) q
  have ups : ∀ {d : List Dat} {v : List V}, Ats (Mx M ad ρ) H d v → Ats (Mx M (adSet ad i p) (ρ.set i (.own ys))) H' d v := fun {d v} h =>
    (h.more hp).mono mm fun a o na q => k a o (fun w => na (.inl (E.wx a w))) q
  refine ⟨E'.kp, j, E.wm, E'.al, by rw [List.length_set, List.length_set]; exact E.len, fun m x e => ?_, fun m ds e => ?_, fun m a e => ?_, fun m l ds es e1 e2 e3 => ?_⟩
  · rcases getElem?_set' e with ⟨em, z⟩ | ⟨nm, z⟩
    · cases z
    · obtain ⟨u, h1, h2⟩ := E.dat m x z
      exact ⟨u, by rw [List.getElem?_set_ne (Ne.symm nm)]; exact h1, up h2⟩
  · rcases getElem?_set' e with ⟨em, z⟩ | ⟨nm, z⟩
    · cases z
      subst em
      rw [adi]
      exact ⟨set_at _ (by rw [E.len]; exact hi), E.bfresh hp, fun z => E.mfresh hp (.inl z), E.ffresh hp, us, h', hs.mono mm fun _ _ _ q => q⟩
    · rw [adn m nm]
      obtain ⟨h1, h2, h3, h4, vs, h5, h6⟩ := E.own m ds z
      exact ⟨by rw [List.getElem?_set_ne (Ne.symm nm)]; exact h1, h2, h3, h4, vs, k _ _ (fun w => h3 (E.wm _ w)) h5, ups h6⟩
  · rcases getElem?_set' e with ⟨em, z⟩ | ⟨nm, z⟩
    · cases z
    · rw [List.getElem?_set_ne (Ne.symm nm)]
      exact E.raw m a z
  · have np : ∀ (m : Nat) ds, ρ[m]? = some (.own ds) → ad m ≠ p := fun m ds e q => by
      obtain ⟨_, _, _, _, vs, h5, _⟩ := E.own m ds e
      rw [q, hp] at h5
      cases h5
    rcases getElem?_set' e1 with ⟨em, z⟩ | ⟨nm, z⟩
    · rcases getElem?_set' e2 with ⟨el, z2⟩ | ⟨nl, z2⟩
      · rw [em, el]
      · rw [em, adi, adn l nl] at e3
        exact absurd e3.symm (np l _ z2)
    · rcases getElem?_set' e2 with ⟨el, z2⟩ | ⟨nl, z2⟩
      · rw [el, adi, adn m nm] at e3
        exact absurd e3 (np m _ z)
      · rw [adn m nm, adn l nl] at e3
        exact E.inj m l ds es z z2 e3
end
/-! ### the contexts of a body -/
structure Sg where
  P : Program
  w : World
  K : PySem.W.Frag
  mg : Str → Option Value
  base : Heap
  A : Around
  N : List Str
  sc : Scope
  fn : Str → Bool
structure Cl (S : Sg) (X : Cx) : Prop where
  P : X.prog = S.P
  w : X.w = S.w
  K : X.K = S.K
  mg : X.mg = S.mg
  base : X.base = S.base
  A : X.A = S.A
  N : X.N = S.N
  sc : X.env.scope = S.sc
  fn : X.fn = S.fn
  calm : X.calm = true
  xe : X.xe = fun _ _ => False
def wE (S : Sg) (e : Expr) : TE := fun σ H Q => ∃ t, (∀ X, Cl S X → PE X e t) ∧ t σ H Q
def wT (S : Sg) (e : Expr) : TT := fun σ H Q => ∃ t, (∀ X, Cl S X → PT X e t) ∧ t σ H Q
def wW (S : Sg) (e : Expr) : TT := fun σ H Q => ∃ t, (∀ X, Cl S X → PW X e t) ∧ t σ H Q
def wA (S : Sg) (es : List Expr) : TA := fun σ H Q => ∃ t, (∀ X, Cl S X → PA X es t) ∧ t σ H Q
def wTs (S : Sg) (es : List Expr) : TT := fun σ H Q => ∃ t, (∀ X, Cl S X → PTs X es t) ∧ t σ H Q
def wG (S : Sg) (e : Expr) : TG := fun v σ H Q => ∃ t, (∀ X, Cl S X → PG X e t) ∧ t v σ H Q
def wGs (S : Sg) (es : List Expr) : TGs := fun vs σ H Q => ∃ t, (∀ X, Cl S X → PGs X es t) ∧ t vs σ H Q
def wI (S : Sg) (tg e : Expr) : TI := fun σ H R => ∃ t, (∀ X, Cl S X → PI X tg e t) ∧ t σ H R
def wS (S : Sg) (st : Stmt) : TS := fun D σ H => ∃ t, (∀ X, Cl S X → PS X st t) ∧ t D σ H
def wSs (S : Sg) (st : List Stmt) : TS := fun D σ H => ∃ t, (∀ X, Cl S X → PSs X st t) ∧ t D σ H
section
variable {S : Sg} {X : Cx} {e tg : Expr} {es : List Expr} {st : Stmt} {sts : List Stmt}
theorem wE_ok (c : Cl S X) : PE X e (wE S e) := ⟨fun pins s σ H Q I ⟨t, h, q⟩ => (h X c).run pins s σ H Q I q⟩
theorem wT_ok (c : Cl S X) : PT X e (wT S e) := ⟨fun pins s σ H Q I ⟨t, h, q⟩ => (h X c).run pins s σ H Q I q⟩
theorem wW_ok (c : Cl S X) : PW X e (wW S e) := ⟨fun wh pins s σ H Q I ⟨t, h, q⟩ => (h X c).run wh pins s σ H Q I q⟩
theorem wA_ok (c : Cl S X) : PA X es (wA S es) := ⟨fun pos pins s σ H Q I ⟨t, h, q⟩ => (h X c).run pos pins s σ H Q I q⟩
theorem wTs_ok (c : Cl S X) : PTs X es (wTs S es) := ⟨fun pins s σ H Q I ⟨t, h, q⟩ => (h X c).run pins s σ H Q I q⟩
theorem wG_ok (c : Cl S X) : PG X e (wG S e) := ⟨fun pins s σ H v u Q I r ⟨t, h, q⟩ => (h X c).run pins s σ H v u Q I r q⟩
theorem wGs_ok (c : Cl S X) : PGs X es (wGs S es) := ⟨fun pins s σ H vs us Q I r ⟨t, h, q⟩ => (h X c).run pins s σ H vs us Q I r q⟩
theorem wI_ok (c : Cl S X) : PI X tg e (wI S tg e) := ⟨fun pins s σ H R I ⟨t, h, q⟩ => (h X c).run pins s σ H R I q⟩
theorem wS_ok (c : Cl S X) : PS X st (wS S st) := ⟨fun pins s σ H D I ⟨t, h, q⟩ => (h X c).run pins s σ H D I q⟩
theorem wSs_ok (c : Cl S X) : PSs X sts (wSs S sts) := ⟨fun pins s σ H D I ⟨t, h, q⟩ => (h X c).run pins s σ H D I q⟩
end
/-! ### evaluations over data -/
section
variable (S : Sg) (g : Wd)
/-- e gives a datum, n becomes n', as K tells -/
def Ev (e : Expr) (ρ : En) (n : Nat) (K : Nat → Dat → Prop) : Prop := ∀ M Hb ad σ H, EnvOk g M Hb ad n σ H ρ → ∀ Q : VK,
  (∀ n' v H' d, Kw g H H' → g.J n' H' → At (Mx M ad ρ) H' d v → K n' d → Q v H') → wE S e σ H Q
/-- e gives a new list -/
def EvN (e : Expr) (ρ : En) (n : Nat) (K : Nat → List Dat → Prop) : Prop := ∀ M Hb ad σ H, EnvOk g M Hb ad n σ H ρ → ∀ Q : VK,
  (∀ n' p us H' ds, H p = none → Kw g H H' → g.J n' H' → H' p = some (.lst us) → Ats (fun a => Mx M ad ρ a ∨ a = p) H' ds us → K n' ds → Q (.ref p) H') → wE S e σ H Q
def EvT (e : Expr) (ρ : En) (n : Nat) (K : Nat → Bool → Prop) : Prop := ∀ M Hb ad σ H, EnvOk g M Hb ad n σ H ρ → ∀ Q : Bool → Hp → Prop,
  (∀ n' b H', Kw g H H' → g.J n' H' → K n' b → Q b H') → wT S e σ H Q
def EvW (e : Expr) (ρ : En) (n : Nat) (K : Nat → Bool → Prop) : Prop := ∀ M Hb ad σ H, EnvOk g M Hb ad n σ H ρ → ∀ Q : Bool → Hp → Prop,
  (∀ n' b H', Kw g H H' → g.J n' H' → K n' b → Q b H') → wW S e σ H Q
def EvTs (es : List Expr) (ρ : En) (n : Nat) (K : Nat → Bool → Prop) : Prop := ∀ M Hb ad σ H, EnvOk g M Hb ad n σ H ρ → ∀ Q : Bool → Hp → Prop,
  (∀ n' b H', Kw g H H' → g.J n' H' → K n' b → Q b H') → wTs S es σ H Q
def EvA (es : List Expr) (ρ : En) (n : Nat) (K : Nat → List Dat → Prop) : Prop := ∀ M Hb ad σ H, EnvOk g M Hb ad n σ H ρ → ∀ Q : List V → Hp → Prop,
  (∀ n' vs H' ds, Kw g H H' → g.J n' H' → Ats (Mx M ad ρ) H' ds vs → K n' ds → Q vs H') → wA S es σ H Q
/-- a pure one -/
abbrev Ed (e : Expr) (ρ : En) (d : Dat) : Prop := ∀ n, Ev S g e ρ n fun n' x => n' = n ∧ x = d
abbrev EdN (e : Expr) (ρ : En) (ds : List Dat) : Prop := ∀ n, EvN S g e ρ n fun n' x => n' = n ∧ x = ds
abbrev EdT (e : Expr) (ρ : En) (b : Bool) : Prop := ∀ n, EvT S g e ρ n fun n' x => n' = n ∧ x = b
abbrev EdW (e : Expr) (ρ : En) (b : Bool) : Prop := ∀ n, EvW S g e ρ n fun n' x => n' = n ∧ x = b
abbrev EdTs (es : List Expr) (ρ : En) (b : Bool) : Prop := ∀ n, EvTs S g es ρ n fun n' x => n' = n ∧ x = b
abbrev EdA (es : List Expr) (ρ : En) (ds : List Dat) : Prop := ∀ n, EvA S g es ρ n fun n' x => n' = n ∧ x = ds
end
section
variable {S : Sg} {g : Wd} {e a b : Expr} {es : List Expr} {ρ : En} {n : Nat} {pos : Pos}
theorem Ev.imp {K K' : Nat → Dat → Prop} (h : Ev S g e ρ n K) (k : ∀ n d, K n d → K' n d) : Ev S g e ρ n K' := fun M Hb ad σ H E Q q =>
  h M Hb ad σ H E Q fun n' v H' d a1 a2 a3 a4 => q n' v H' d a1 a2 a3 (k _ _ a4)
theorem EvT.imp {K K' : Nat → Bool → Prop} (h : EvT S g e ρ n K) (k : ∀ n d, K n d → K' n d) : EvT S g e ρ n K' := fun M Hb ad σ H E Q q =>
  h M Hb ad σ H E Q fun n' v H' a1 a2 a4 => q n' v H' a1 a2 (k _ _ a4)
theorem Ed.ev {d : Dat} {K : Nat → Dat → Prop} (h : Ed S g e ρ d) (k : K n d) : Ev S g e ρ n K := (h n).imp fun _ _ z => by
  obtain ⟨rfl, rfl⟩ := z
  exact k
theorem EdT.ev {b : Bool} {K : Nat → Bool → Prop} (h : EdT S g e ρ b) (k : K n b) : EvT S g e ρ n K := (h n).imp fun _ _ z => by
  obtain ⟨rfl, rfl⟩ := z
  exact k
theorem Ed.is {d d' : Dat} (h : Ed S g e ρ d) (q : d = d') : Ed S g e ρ d' := q ▸ h
theorem EdT.is {d d' : Bool} (h : EdT S g e ρ d) (q : d = d') : EdT S g e ρ d' := q ▸ h
theorem EdN.is {d d' : List Dat} (h : EdN S g e ρ d) (q : d = d') : EdN S g e ρ d' := q ▸ h
/-- a new list as a datum -/
theorem EvN.ev {K : Nat → Dat → Prop} (h : EvN S g e ρ n fun n' ds => K n' (.lst ds)) : Ev S g e ρ n K := fun M Hb ad σ H E Q q =>
  h M Hb ad σ H E Q fun n' p us H' ds f k j hp hs kd => q n' _ H' _ k j (At.lst (E.mfresh f) hp (hs.mono (fun _ z => .inl z) fun _ _ _ z => z)) kd
theorem EdN.ed {ds : List Dat} (h : EdN S g e ρ ds) : Ed S g e ρ (.lst ds) := fun n => EvN.ev fun M Hb ad σ H E Q q => h n M Hb ad σ H E Q fun n' p us H' xs a1 a2 a3 a4 a5 a6 => q n' p us H' xs a1 a2 a3 a4 a5 ⟨a6.1, by rw [a6.2]⟩
/-! ### names, constants -/
def visB (sc : Scope) (x : Str) : Bool := match sc.names.lookup x with
  | some .local => true
  | some .cell => true
  | some .free => true
  | _ => false
theorem visB_ok {sc : Scope} {x : Str} (h : visB sc x = true) : Vis sc x := by
  unfold visB at h
  split at h
  · rename_i z; exact .inl z
  · rename_i z; exact .inr (.inl z)
  · rename_i z; exact .inr (.inr z)
  · cases h
/-- the name x at slot i of the scope's names -/
def nmB (N : List Str) (sc : Scope) (i : Nat) (x : Str) : Bool := decide (N[i]? = some x) && (visB sc x && (!(x == ("__debug__" : Str)) && !(x == ("__classdict__" : Str))))
theorem nmB_ok {N : List Str} {sc : Scope} {i : Nat} {x : Str} (h : nmB N sc i x = true) : N[i]? = some x ∧ Vis sc x ∧ (x == ("__debug__" : Str)) = false ∧ (x == ("__classdict__" : Str)) = false := by
  unfold nmB at h
  simp only [Bool.and_eq_true, decide_eq_true_eq, Bool.not_eq_true'] at h
  exact ⟨h.1, visB_ok h.2.1, h.2.2.1, h.2.2.2⟩
theorem pe_nm {X : Cx} (c : Cl S X) {i : Nat} {x : Str} (h : nmB S.N S.sc i x = true) : PE X (.Name x pos) (tVar i) := by
  obtain ⟨h1, h2, h3, h4⟩ := nmB_ok h
  exact pe_var (by rw [c.N]; exact h1) (by rw [c.sc]; exact h2) h3 h4
theorem ed_nm {x : Str} (i : Nat) {d : Dat} (h : nmB S.N S.sc i x = true) (hd : ρ[i]? = some (.dat d)) : Ed S g (.Name x pos) ρ d := fun n M Hb ad σ H E Q q => by
  obtain ⟨v, h1, h2⟩ := E.dat i d hd
  exact ⟨_, fun X c => pe_nm c h, v, h1, q n v H d (Kw.refl H) E.j h2 ⟨rfl, rfl⟩⟩
theorem ed_int {i : Int} {j : Nat} : Ed S g (.Constant (.int i) j pos) ρ (.int i) := fun n M Hb ad σ H E Q q => ⟨_, fun X c => pe_int, q n _ H _ (Kw.refl H) E.j At.int ⟨rfl, rfl⟩⟩
theorem ed_bl {i : Bool} {j : Nat} : Ed S g (.Constant (.bool i) j pos) ρ (.bl i) := fun n M Hb ad σ H E Q q => ⟨_, fun X c => pe_bl, q n _ H _ (Kw.refl H) E.j At.bl ⟨rfl, rfl⟩⟩
theorem ed_non {j : Nat} : Ed S g (.Constant .none j pos) ρ .non := fun n M Hb ad σ H E Q q => ⟨_, fun X c => pe_non, q n _ H _ (Kw.refl H) E.j At.non ⟨rfl, rfl⟩⟩
theorem ed_str {x : Str} {j : Nat} : Ed S g (.Constant (.str x) j pos) ρ (.str x) := fun n M Hb ad σ H E Q q => ⟨_, fun X c => pe_str, q n _ H _ (Kw.refl H) E.j At.str ⟨rfl, rfl⟩⟩
/-! ### argument lists, displays -/
theorem ea_nil {K : Nat → List Dat → Prop} (k : K n []) : EvA S g [] ρ n K := fun M Hb ad σ H E Q q => ⟨_, fun X c => pa_nil, q n [] H [] (Kw.refl H) E.j Ats.nil k⟩
theorem ea_cons {K : Nat → List Dat → Prop} (h : Ev S g e ρ n fun n1 d => EvA S g es ρ n1 fun n2 ds => K n2 (d :: ds)) (hs : ∀ env, starEach (e :: es) env = (false, eval e env) :: starEach es env := by intro _; rfl) : EvA S g (e :: es) ρ n K := fun M Hb ad σ H E Q q =>
  ⟨tCons (wE S e) (wA S es), fun X c => pa_cons (wE_ok c) (wA_ok c) (hs _), h M Hb ad σ H E _ fun n1 v H1 d k1 j1 a1 r => r M Hb ad σ H1 (E.keep k1 j1) _ fun n2 vs H2 ds k2 j2 a2 k => q n2 (v :: vs) H2 (d :: ds) (k1.trans k2) j2 (Ats.cons ((E.keep k1 j1).at_ k2 a1) a2) k⟩
theorem eda_nil : EdA S g [] ρ [] := fun n => ea_nil ⟨rfl, rfl⟩
theorem eda_cons {d : Dat} {ds : List Dat} (h : Ed S g e ρ d) (r : EdA S g es ρ ds) (hs : ∀ env, starEach (e :: es) env = (false, eval e env) :: starEach es env := by intro _; rfl) : EdA S g (e :: es) ρ (d :: ds) := fun n =>
  ea_cons (h.ev fun M Hb ad σ H E Q q => r n M Hb ad σ H E Q fun n' vs H' xs a1 a2 a3 a4 => q n' vs H' xs a1 a2 a3 ⟨a4.1, by rw [a4.2]⟩) hs
theorem EvA.imp {K K' : Nat → List Dat → Prop} (h : EvA S g es ρ n K) (k : ∀ n d, K n d → K' n d) : EvA S g es ρ n K' := fun M Hb ad σ H E Q q =>
  h M Hb ad σ H E Q fun n' v H' d a1 a2 a3 a4 => q n' v H' d a1 a2 a3 (k _ _ a4)
theorem ev_tup {x1 : Nat} {K : Nat → Dat → Prop} (h : EvA S g es ρ n fun n' ds => K n' (.tup ds) ∧ ds.length ≤ 1000) : Ev S g (.Tuple es x1 pos) ρ n K := fun M Hb ad σ H E Q q =>
  ⟨tTup (wA S es), fun X c => pe_tup (wA_ok c), h M Hb ad σ H E _ fun n' vs H' ds k j a kd => ⟨by rw [a.len]; exact Nat.le_of_lt (small1000 kd.2), fun p hp =>
    q n' _ _ _ (k.trans (Kw.of (same_new hp))) (g.js _ _ _ j (same_new hp)) (At.tup ((E.keep k j).mfresh hp) upd_same (a.same (same_new hp))) kd.1⟩⟩
theorem ed_tup {x1 : Nat} {ds : List Dat} (h : EdA S g es ρ ds) (hl : ds.length ≤ 1000 := by decide) : Ed S g (.Tuple es x1 pos) ρ (.tup ds) := fun n => ev_tup ((h n).imp fun _ _ z => ⟨⟨z.1, by rw [z.2]⟩, by rw [z.2]; exact hl⟩)
theorem evn_lst {K : Nat → List Dat → Prop} (h : EvA S g es ρ n fun n' ds => K n' ds ∧ ds.length ≤ 1000) : EvN S g (.List es pos) ρ n K := fun M Hb ad σ H E Q q =>
  ⟨tLst (wA S es), fun X c => pe_lst (wA_ok c), h M Hb ad σ H E _ fun n' vs H' ds k j a kd => ⟨by rw [a.len]; exact Nat.le_of_lt (small1000 kd.2), fun p hp => by
    have f : H p = none := by
      cases z : H p with
      | none => rfl
      | some o =>
        rw [k p o (fun w => by obtain ⟨o2, z2⟩ := g.ja _ _ _ j (g.wf p w); rw [hp] at z2; cases z2) z] at hp
        cases hp
    exact q n' p vs _ ds f (k.trans (Kw.of (same_new hp))) (g.js _ _ _ j (same_new hp)) upd_same ((a.more hp).same (same_new hp)) kd.1⟩⟩
theorem edn_lst {ds : List Dat} (h : EdA S g es ρ ds) (hl : ds.length ≤ 1000 := by decide) : EdN S g (.List es pos) ρ ds := fun n => evn_lst ((h n).imp fun _ _ z => ⟨z, by rw [z.2]; exact hl⟩)
end
end Kb
/-! rules over data: operators, comparisons, tests, subscripts, slices, calls of built-ins -/
namespace Kb
open PySem PySem.Spec PyProof.Rows L2
/-! ### two-place operations -/
def wO (S : Sg) (f : Value → Value → Sem Value) : R2 := fun v w H Q => ∃ r, (∀ X, Cl S X → OpR X f r) ∧ r v w H Q
theorem wO_ok {S : Sg} {X : Cx} {f : Value → Value → Sem Value} (c : Cl S X) : OpR X f (wO S f) := fun pins s σ H x y v u Q I rx ry ⟨r, h, q⟩ => h X c pins s σ H x y v u Q I rx ry q
/-- f of x and y is z -/
def Op (S : Sg) (f : Value → Value → Sem Value) (x y z : Dat) : Prop := ∀ (M : Mu) (H : Hp), (∀ a, M a → ∃ o, H a = some o) → ∀ v w, At M H x v → At M H y w → ∀ Q : VK, (∀ u H', Same H H' → At M H' z u → Q u H') → wO S f v w H Q
/-- f of x and y is a new list of zs -/
def OpN (S : Sg) (f : Value → Value → Sem Value) (x y : Dat) (zs : List Dat) : Prop := ∀ (M : Mu) (H : Hp) v w, At M H x v → At M H y w → ∀ Q : VK, (∀ p us H', H p = none → Same H H' → H' p = some (.lst us) → Ats (fun a => M a ∨ a = p) H' zs us → Q (.ref p) H') → wO S f v w H Q
section
variable {S : Sg} {g : Wd} {e a b c : Expr} {es rest : List Expr} {ρ : En} {n : Nat} {pos : Pos}
theorem EnvOk.fresh_back {M : Mu} {Hb H H' : Hp} {ad : Nat → Addr} {σ : L2.St} {n' : Nat} {p : Addr} (E : EnvOk g M Hb ad n σ H ρ) (k : Kw g H H') (j : g.J n' H') (hp : H' p = none) : H p = none := by
  cases z : H p with
  | none => rfl
  | some o =>
    rw [k p o (fun w => by obtain ⟨o2, z2⟩ := g.ja _ _ _ j (g.wf p w); rw [hp] at z2; cases z2) z] at hp
    cases hp
theorem ev_op {op : Operator} {K : Nat → Dat → Prop} (h : Ev S g a ρ n fun n1 x => Ev S g b ρ n1 fun n2 y => ∃ z, Op S (binaryOp op) x y z ∧ K n2 z) : Ev S g (.BinOp a op b pos) ρ n K := fun M Hb ad σ H E Q q =>
  ⟨tOp (wO S (binaryOp op)) (wE S a) (wE S b), fun X c => pe_op (wO_ok c) (wE_ok c) (wE_ok c), h M Hb ad σ H E _ fun n1 v H1 x k1 j1 a1 r => r M Hb ad σ H1 (E.keep k1 j1) _ fun n2 w H2 y k2 j2 a2 ⟨z, o, kz⟩ =>
    o _ H2 (fun _ h => ((E.keep k1 j1).keep k2 j2).mal h) v w ((E.keep k1 j1).at_ k2 a1) a2 Q fun u H' s a3 => q n2 u H' z ((k1.trans k2).trans (Kw.of s)) (g.js _ _ _ j2 s) a3 kz⟩
theorem ed_op {op : Operator} {x y z : Dat} (ha : Ed S g a ρ x) (hb : Ed S g b ρ y) (h : Op S (binaryOp op) x y z) : Ed S g (.BinOp a op b pos) ρ z := fun n => ev_op (ha.ev (hb.ev ⟨z, h, rfl, rfl⟩))
theorem evn_op {op : Operator} {K : Nat → List Dat → Prop} (h : Ev S g a ρ n fun n1 x => Ev S g b ρ n1 fun n2 y => ∃ z, OpN S (binaryOp op) x y z ∧ K n2 z) : EvN S g (.BinOp a op b pos) ρ n K := fun M Hb ad σ H E Q q =>
  ⟨tOp (wO S (binaryOp op)) (wE S a) (wE S b), fun X c => pe_op (wO_ok c) (wE_ok c) (wE_ok c), h M Hb ad σ H E _ fun n1 v H1 x k1 j1 a1 r => r M Hb ad σ H1 (E.keep k1 j1) _ fun n2 w H2 y k2 j2 a2 ⟨z, o, kz⟩ =>
    o _ H2 v w ((E.keep k1 j1).at_ k2 a1) a2 Q fun p us H' f s hp hs => q n2 p us H' z (E.fresh_back (k1.trans k2) j2 f) ((k1.trans k2).trans (Kw.of s)) (g.js _ _ _ j2 s) hp hs kz⟩
theorem edn_op {op : Operator} {x y : Dat} {z : List Dat} (ha : Ed S g a ρ x) (hb : Ed S g b ρ y) (h : OpN S (binaryOp op) x y z) : EdN S g (.BinOp a op b pos) ρ z := fun n => evn_op (ha.ev (hb.ev ⟨z, h, rfl, rfl⟩))
/-! comparisons -/
theorem ev_cmp {op : CmpOp} {K : Nat → Dat → Prop} (h : Ev S g a ρ n fun n1 x => Ev S g b ρ n1 fun n2 y => ∃ z, Op S (compareOp op) x y z ∧ K n2 z) (hm : behindInMarks op b = false := by first | exact nomark _ (by decide) (by decide) | rfl) : Ev S g (.Compare a [op] [b] pos) ρ n K := fun M Hb ad σ H E Q q =>
  ⟨tOp (wO S (compareOp op)) (wE S a) (wE S b), fun X c => pe_cmpR (wO_ok c) (wE_ok c) (wE_ok c) hm, h M Hb ad σ H E _ fun n1 v H1 x k1 j1 a1 r => r M Hb ad σ H1 (E.keep k1 j1) _ fun n2 w H2 y k2 j2 a2 ⟨z, o, kz⟩ =>
    o _ H2 (fun _ h => ((E.keep k1 j1).keep k2 j2).mal h) v w ((E.keep k1 j1).at_ k2 a1) a2 Q fun u H' s a3 => q n2 u H' z ((k1.trans k2).trans (Kw.of s)) (g.js _ _ _ j2 s) a3 kz⟩
theorem ed_cmp {op : CmpOp} {x y z : Dat} (ha : Ed S g a ρ x) (hb : Ed S g b ρ y) (h : Op S (compareOp op) x y z) (hm : behindInMarks op b = false := by first | exact nomark _ (by decide) (by decide) | rfl) : Ed S g (.Compare a [op] [b] pos) ρ z := fun n => ev_cmp (ha.ev (hb.ev ⟨z, h, rfl, rfl⟩)) hm
theorem et_cmp {op : CmpOp} {K : Nat → Bool → Prop} (h : Ev S g a ρ n fun n1 x => Ev S g b ρ n1 fun n2 y => ∃ z, Op S (compareOp op) x y (.bl z) ∧ K n2 z) (hm : behindInMarks op b = false := by first | exact nomark _ (by decide) (by decide) | rfl) : EvT S g (.Compare a [op] [b] pos) ρ n K := fun M Hb ad σ H E Q q =>
  ⟨tTest (tOp (wO S (compareOp op)) (wE S a) (wE S b)), fun X c => pt_cmpR (wO_ok c) (wE_ok c) (wE_ok c) hm, h M Hb ad σ H E _ fun n1 v H1 x k1 j1 a1 r => r M Hb ad σ H1 (E.keep k1 j1) _ fun n2 w H2 y k2 j2 a2 ⟨z, o, kz⟩ =>
    o _ H2 (fun _ h => ((E.keep k1 j1).keep k2 j2).mal h) v w ((E.keep k1 j1).at_ k2 a1) a2 _ fun u H' s a3 => ⟨z, at_bl a3, q n2 z H' ((k1.trans k2).trans (Kw.of s)) (g.js _ _ _ j2 s) kz⟩⟩
theorem etd_cmp {op : CmpOp} {x y : Dat} {z : Bool} (ha : Ed S g a ρ x) (hb : Ed S g b ρ y) (h : Op S (compareOp op) x y (.bl z)) (hm : behindInMarks op b = false := by first | exact nomark _ (by decide) (by decide) | rfl) : EdT S g (.Compare a [op] [b] pos) ρ z := fun n => et_cmp (ha.ev (hb.ev ⟨z, h, rfl, rfl⟩)) hm
/-! tests -/
theorem et_val {K : Nat → Bool → Prop} (h : Ev S g e ρ n fun n' d => ∃ b, d = .bl b ∧ K n' b) (he : ∀ (env : Env) (whole : Sem Value), isTrue e env whole = (do let v ← whole; standAt e.pos; holding [v] (truthy v)) := by intro _ _; rfl) : EvT S g e ρ n K := fun M Hb ad σ H E Q q =>
  ⟨tB (wE S e), fun X c => pt_val (wE_ok c) (he _), h M Hb ad σ H E _ fun n' v H' d k j a ⟨b, eb, kb⟩ => ⟨b, by subst eb; exact at_bl a, q n' b H' k j kb⟩⟩
theorem etd_val {b : Bool} (h : Ed S g e ρ (.bl b)) (he : ∀ (env : Env) (whole : Sem Value), isTrue e env whole = (do let v ← whole; standAt e.pos; holding [v] (truthy v)) := by intro _ _; rfl) : EdT S g e ρ b := fun n => et_val (h.ev ⟨b, rfl, rfl, rfl⟩) he
theorem et_w {K : Nat → Bool → Prop} (h : EvW S g e ρ n K) : EvT S g e ρ n K := fun M Hb ad σ H E Q q => ⟨wW S e, fun X c => (wW_ok c).pt, h M Hb ad σ H E Q q⟩
theorem etd_w {b : Bool} (h : EdW S g e ρ b) : EdT S g e ρ b := fun n => et_w (h n)
theorem ew_and1 {K : Nat → Bool → Prop} (h : EvT S g a ρ n K) : EvW S g (.BoolOp .And [a] pos) ρ n K := fun M Hb ad σ H E Q q => ⟨wT S a, fun X c => pw_and1 (wT_ok c), h M Hb ad σ H E Q q⟩
theorem ew_or1 {K : Nat → Bool → Prop} (h : EvT S g a ρ n K) : EvW S g (.BoolOp .Or [a] pos) ρ n K := fun M Hb ad σ H E Q q => ⟨wT S a, fun X c => pw_or1 (wT_ok c), h M Hb ad σ H E Q q⟩
theorem ew_and {K : Nat → Bool → Prop} (h : EvT S g a ρ n fun n1 x => (x = true → EvW S g (.BoolOp .And (b :: rest) pos) ρ n1 K) ∧ (x = false → K n1 false)) : EvW S g (.BoolOp .And (a :: b :: rest) pos) ρ n K := fun M Hb ad σ H E Q q =>
  ⟨tAnd (wT S a) (wW S (.BoolOp .And (b :: rest) pos)), fun X c => pw_and (wT_ok c) (wW_ok c), h M Hb ad σ H E _ fun n1 x H1 k1 j1 r => by
    cases x with
    | true => exact iteT (r.1 rfl M Hb ad σ H1 (E.keep k1 j1) Q fun n2 y H2 k2 j2 ky => q n2 y H2 (k1.trans k2) j2 ky)
    | false => exact iteF (q n1 false H1 k1 j1 (r.2 rfl))⟩
theorem ew_or {K : Nat → Bool → Prop} (h : EvT S g a ρ n fun n1 x => (x = false → EvW S g (.BoolOp .Or (b :: rest) pos) ρ n1 K) ∧ (x = true → K n1 true)) : EvW S g (.BoolOp .Or (a :: b :: rest) pos) ρ n K := fun M Hb ad σ H E Q q =>
  ⟨tOr (wT S a) (wW S (.BoolOp .Or (b :: rest) pos)), fun X c => pw_or (wT_ok c) (wW_ok c), h M Hb ad σ H E _ fun n1 x H1 k1 j1 r => by
    cases x with
    | false => exact iteF (r.1 rfl M Hb ad σ H1 (E.keep k1 j1) Q fun n2 y H2 k2 j2 ky => q n2 y H2 (k1.trans k2) j2 ky)
    | true => exact iteT (q n1 true H1 k1 j1 (r.2 rfl))⟩
theorem ewd_and1 {x : Bool} (h : EdT S g a ρ x) : EdW S g (.BoolOp .And [a] pos) ρ x := fun n => ew_and1 (h n)
theorem ewd_or1 {x : Bool} (h : EdT S g a ρ x) : EdW S g (.BoolOp .Or [a] pos) ρ x := fun n => ew_or1 (h n)
/-- the right side is asked where the left one is true alone -/
theorem ewd_and {x y : Bool} (h : EdT S g a ρ x) (h2 : x = true → EdW S g (.BoolOp .And (b :: rest) pos) ρ y) : EdW S g (.BoolOp .And (a :: b :: rest) pos) ρ (x && y) := fun n => ew_and (h.ev ⟨fun e => by
  subst e
  exact h2 rfl n, fun e => by
  subst e
  exact ⟨rfl, rfl⟩⟩)
theorem ewd_or {x y : Bool} (h : EdT S g a ρ x) (h2 : x = false → EdW S g (.BoolOp .Or (b :: rest) pos) ρ y) : EdW S g (.BoolOp .Or (a :: b :: rest) pos) ρ (x || y) := fun n => ew_or (h.ev ⟨fun e => by
  subst e
  exact h2 rfl n, fun e => by
  subst e
  exact ⟨rfl, rfl⟩⟩)
theorem et_not {K : Nat → Bool → Prop} (h : EvT S g a ρ n fun n' x => K n' (!x)) : EvT S g (.UnaryOp .Not a pos) ρ n K := fun M Hb ad σ H E Q q =>
  ⟨tNot (wT S a), fun X c => pt_not (wT_ok c), h M Hb ad σ H E _ fun n' x H' k j kx => q n' (!x) H' k j kx⟩
theorem etd_not {x : Bool} (h : EdT S g a ρ x) : EdT S g (.UnaryOp .Not a pos) ρ (!x) := fun n => et_not (h.ev ⟨rfl, rfl⟩)
/-! and, or, not as values of bools -/
theorem ed_one {op : BoolOp} {d : Dat} (h : Ed S g a ρ d) : Ed S g (.BoolOp op [a] pos) ρ d := fun n M Hb ad σ H E Q q => ⟨wE S a, fun X c => pe_one (wE_ok c), h n M Hb ad σ H E Q q⟩
theorem ed_and {x : Bool} {y : Bool} (h : Ed S g a ρ (.bl x)) (h2 : x = true → Ed S g (.BoolOp .And (b :: rest) pos) ρ (.bl y)) : Ed S g (.BoolOp .And (a :: b :: rest) pos) ρ (.bl (x && y)) := fun n M Hb ad σ H E Q q =>
  ⟨tAndV (wE S a) (wE S (.BoolOp .And (b :: rest) pos)), fun X c => pe_and (wE_ok c) (wE_ok c), h n M Hb ad σ H E _ fun n1 v H1 d k1 j1 a1 r => by
    obtain ⟨rfl, rfl⟩ := r
    refine ⟨x, at_bl a1, ?_⟩
    cases x with
    | true => exact iteT (h2 rfl n1 M Hb ad σ H1 (E.keep k1 j1) Q fun n2 w H2 y' k2 j2 a2 ky => q n2 w H2 y' (k1.trans k2) j2 a2 ky)
    | false => exact iteF (q n1 _ H1 _ k1 j1 At.bl ⟨rfl, rfl⟩)⟩
theorem ed_or {x : Bool} {y : Bool} (h : Ed S g a ρ (.bl x)) (h2 : x = false → Ed S g (.BoolOp .Or (b :: rest) pos) ρ (.bl y)) : Ed S g (.BoolOp .Or (a :: b :: rest) pos) ρ (.bl (x || y)) := fun n M Hb ad σ H E Q q =>
  ⟨tOrV (wE S a) (wE S (.BoolOp .Or (b :: rest) pos)), fun X c => pe_or (wE_ok c) (wE_ok c), h n M Hb ad σ H E _ fun n1 v H1 d k1 j1 a1 r => by
    obtain ⟨rfl, rfl⟩ := r
    refine ⟨x, at_bl a1, ?_⟩
    cases x with
    | false => exact iteF (h2 rfl n1 M Hb ad σ H1 (E.keep k1 j1) Q fun n2 w H2 y' k2 j2 a2 ky => q n2 w H2 y' (k1.trans k2) j2 a2 ky)
    | true => exact iteT (q n1 _ H1 _ k1 j1 At.bl ⟨rfl, rfl⟩)⟩
theorem ed_not {x : Bool} (h : Ed S g a ρ (.bl x)) : Ed S g (.UnaryOp .Not a pos) ρ (.bl (!x)) := fun n M Hb ad σ H E Q q =>
  ⟨tNotV (wE S a), fun X c => pe_not (wE_ok c), h n M Hb ad σ H E _ fun n1 v H1 d k1 j1 a1 r => by
    obtain ⟨rfl, rfl⟩ := r
    exact ⟨x, at_bl a1, q n1 _ H1 _ k1 j1 At.bl ⟨rfl, rfl⟩⟩⟩
theorem ed_neg {i : Int} (h : Ed S g a ρ (.int i)) : Ed S g (.UnaryOp .USub a pos) ρ (.int (-i)) := fun n M Hb ad σ H E Q q =>
  ⟨tUn (rU fun i => .int (-i)) (wE S a), fun X c => pe_un un_neg (wE_ok c), h n M Hb ad σ H E _ fun n1 v H1 d k1 j1 a1 r => by
    obtain ⟨rfl, rfl⟩ := r
    exact ⟨i, at_int a1, q n1 _ H1 _ k1 j1 At.int ⟨rfl, rfl⟩⟩⟩
theorem ev_if {K : Nat → Dat → Prop} (h : EvT S g c ρ n fun n1 x => (x = true → Ev S g a ρ n1 K) ∧ (x = false → Ev S g b ρ n1 K)) : Ev S g (.IfExp c a b pos) ρ n K := fun M Hb ad σ H E Q q =>
  ⟨tIf (wT S c) (wE S a) (wE S b), fun X cl => pe_ifExp (wT_ok cl) (wE_ok cl) (wE_ok cl), h M Hb ad σ H E _ fun n1 x H1 k1 j1 r => by
    cases x with
    | true => exact iteT (r.1 rfl M Hb ad σ H1 (E.keep k1 j1) Q fun n2 w H2 y' k2 j2 a2 ky => q n2 w H2 y' (k1.trans k2) j2 a2 ky)
    | false => exact iteF (r.2 rfl M Hb ad σ H1 (E.keep k1 j1) Q fun n2 w H2 y' k2 j2 a2 ky => q n2 w H2 y' (k1.trans k2) j2 a2 ky)⟩
theorem ed_if {x : Bool} {d : Dat} (h : EdT S g c ρ x) (h1 : x = true → Ed S g a ρ d) (h2 : x = false → Ed S g b ρ d) : Ed S g (.IfExp c a b pos) ρ d := fun n => ev_if (h.ev ⟨fun e => h1 e n, fun e => h2 e n⟩)
/-! ### what the operations do -/
theorem o_add {i j : Int} : Op S (binaryOp .Add) (.int i) (.int j) (.int (i + j)) := fun M H al v w a1 a2 Q q => ⟨_, fun X c => op_add, i, j, at_int a1, at_int a2, q _ H (Same.refl H) At.int⟩
theorem o_sub {i j : Int} : Op S (binaryOp .Sub) (.int i) (.int j) (.int (i - j)) := fun M H al v w a1 a2 Q q => ⟨_, fun X c => op_sub, i, j, at_int a1, at_int a2, q _ H (Same.refl H) At.int⟩
theorem o_mul {i j : Int} (h : CMulW i j) : Op S (binaryOp .Mult) (.int i) (.int j) (.int (i * j)) := fun M H al v w a1 a2 Q q => ⟨_, fun X c => op_mulW, i, j, at_int a1, at_int a2, h, q _ H (Same.refl H) At.int⟩
theorem o_fdiv {i j : Int} (h : CDivW i j) : Op S (binaryOp .FloorDiv) (.int i) (.int j) (.int (i / j)) := fun M H al v w a1 a2 Q q => ⟨_, fun X c => op_fdivW, i, j, at_int a1, at_int a2, h, q _ H (Same.refl H) At.int⟩
theorem o_mod {i j : Int} (h : 0 < j) : Op S (binaryOp .Mod) (.int i) (.int j) (.int (i % j)) := fun M H al v w a1 a2 Q q => ⟨_, fun X c => op_mod, i, j, at_int a1, at_int a2, h, q _ H (Same.refl H) At.int⟩
theorem o_pow {i j : Int} (h : CPow i j) : Op S (binaryOp .Pow) (.int i) (.int j) (.int (i ^ j.toNat)) := fun M H al v w a1 a2 Q q => ⟨_, fun X c => op_pow, i, j, at_int a1, at_int a2, h, q _ H (Same.refl H) At.int⟩
theorem o_lt {i j : Int} : Op S (compareOp .Lt) (.int i) (.int j) (.bl (decide (i < j))) := fun M H al v w a1 a2 Q q => ⟨_, fun X c => op_lt, i, j, at_int a1, at_int a2, q _ H (Same.refl H) At.bl⟩
theorem o_le {i j : Int} : Op S (compareOp .LtE) (.int i) (.int j) (.bl (decide (i ≤ j))) := fun M H al v w a1 a2 Q q => ⟨_, fun X c => op_le, i, j, at_int a1, at_int a2, q _ H (Same.refl H) At.bl⟩
theorem o_gt {i j : Int} : Op S (compareOp .Gt) (.int i) (.int j) (.bl (decide (j < i))) := fun M H al v w a1 a2 Q q => ⟨_, fun X c => op_gt, i, j, at_int a1, at_int a2, q _ H (Same.refl H) At.bl⟩
theorem o_ge {i j : Int} : Op S (compareOp .GtE) (.int i) (.int j) (.bl (decide (j ≤ i))) := fun M H al v w a1 a2 Q q => ⟨_, fun X c => op_ge, i, j, at_int a1, at_int a2, q _ H (Same.refl H) At.bl⟩
theorem o_eq {i j : Int} : Op S (compareOp .Eq) (.int i) (.int j) (.bl (decide (i = j))) := fun M H al v w a1 a2 Q q => by
  rw [at_int a1, at_int a2]
  refine ⟨_, fun X c => op_eq, rfl, q _ H (Same.refl H) ?_⟩
  rw [show decide (i = j) = decide (V.int i = V.int j) by simp]
  exact At.bl
theorem o_ne {i j : Int} : Op S (compareOp .NotEq) (.int i) (.int j) (.bl (decide (i ≠ j))) := fun M H al v w a1 a2 Q q => by
  rw [at_int a1, at_int a2]
  refine ⟨_, fun X c => op_ne, rfl, q _ H (Same.refl H) ?_⟩
  rw [show decide (i ≠ j) = !decide (V.int i = V.int j) by simp]
  exact At.bl
theorem o_eqS {i j : Str} : Op S (compareOp .Eq) (.str i) (.str j) (.bl (decide (i = j))) := fun M H al v w a1 a2 Q q => by
  rw [at_str a1, at_str a2]
  refine ⟨_, fun X c => op_eq, rfl, q _ H (Same.refl H) ?_⟩
  rw [show decide (i = j) = decide (V.str i = V.str j) by simp]
  exact At.bl
theorem o_eqB {i j : Bool} : Op S (compareOp .Eq) (.bl i) (.bl j) (.bl (decide (i = j))) := fun M H al v w a1 a2 Q q => by
  rw [at_bl a1, at_bl a2]
  refine ⟨_, fun X c => op_eq, rfl, q _ H (Same.refl H) ?_⟩
  rw [show decide (i = j) = decide (V.bl i = V.bl j) by simp]
  exact At.bl
theorem o_neB {i j : Bool} : Op S (compareOp .NotEq) (.bl i) (.bl j) (.bl (decide (i ≠ j))) := fun M H al v w a1 a2 Q q => by
  rw [at_bl a1, at_bl a2]
  refine ⟨_, fun X c => op_ne, rfl, q _ H (Same.refl H) ?_⟩
  rw [show decide (i ≠ j) = !decide (V.bl i = V.bl j) by simp]
  exact At.bl
/-- whether a datum is None -/
def isN : Dat → Bool
  | .non => true
  | _ => false
theorem at_isN {M : Mu} {H : Hp} {d : Dat} {v : V} (h : At M H d v) : decide (v = .non) = isN d := by
  cases d with
  | non => rw [at_non h]; rfl
  | bl b => rw [at_bl h]; rfl
  | int i => rw [at_int h]; rfl
  | str i => rw [at_str h]; rfl
  | tup l => obtain ⟨a, vs, rfl, _⟩ := at_tup h; rfl
  | lst l => obtain ⟨a, vs, rfl, _⟩ := at_lst h; rfl
  | obj o C ns l => obtain ⟨dx, fs, vs, rfl, _⟩ := at_obj h; rfl
theorem o_isN {d : Dat} : Op S (compareOp .Is) d .non (.bl (isN d)) := fun M H al v w a1 a2 Q q => ⟨_, fun X c => op_isN, at_non a2, by rw [at_isN a1]; exact q _ H (Same.refl H) At.bl⟩
theorem o_notN {d : Dat} : Op S (compareOp .IsNot) d .non (.bl (!isN d)) := fun M H al v w a1 a2 Q q => ⟨_, fun X c => op_notN, at_non a2, by rw [at_isN a1]; exact q _ H (Same.refl H) At.bl⟩
/-- lists joined -/
theorem on_cat {xs ys : List Dat} (hz : xs.length + ys.length ≤ 1000) : OpN S (binaryOp .Add) (.lst xs) (.lst ys) (xs ++ ys) := fun M H v w a1 a2 Q q => by
  obtain ⟨a, vs, rfl, na, ha, sa⟩ := at_lst a1
  obtain ⟨b, us, rfl, nb, hb, sb⟩ := at_lst a2
  refine ⟨_, fun X c => op_cat, a, b, vs, us, rfl, rfl, ha, hb, by rw [sa.len, sb.len]; exact Nat.le_of_lt (small1000 hz), fun p hp => q p _ _ hp (same_new hp) upd_same ?_⟩
  exact (((sa.app sb).more hp)).same (same_new hp)
/-- tuples joined -/
theorem o_catT {xs ys : List Dat} (hz : xs.length + ys.length ≤ 1000) : Op S (binaryOp .Add) (.tup xs) (.tup ys) (.tup (xs ++ ys)) := fun M H al v w a1 a2 Q q => by
  obtain ⟨a, vs, rfl, na, ha, sa⟩ := at_tup a1
  obtain ⟨b, us, rfl, nb, hb, sb⟩ := at_tup a2
  refine ⟨rCatA S.K, fun X c => by rw [← c.K]; exact op_catA, a, b, vs, us, rfl, rfl, SqT.of ha, SqT.of hb, by rw [sa.len, sb.len]; exact Nat.le_of_lt (small1000 hz), fun e => ?_, fun _ e => ?_, fun _ _ p hp => ?_⟩
  · have ex : xs = [] := List.length_eq_zero_iff.mp (by rw [← sa.len, e]; rfl)
    subst ex
    exact q _ H (Same.refl H) a2
  · have ey : ys = [] := List.length_eq_zero_iff.mp (by rw [← sb.len, e]; rfl)
    subst ey
    exact q _ H (Same.refl H) (by rw [List.append_nil]; exact a1)
  · exact q _ _ (same_new hp) (At.tup (fun z => by obtain ⟨o, e⟩ := al p z; rw [hp] at e; cases e) upd_same ((sa.app sb).same (same_new hp)))
/-- a list repeated -/
theorem on_rep {xs : List Dat} {k : Int} (h0 : 0 ≤ k) (h1 : k ≤ 1000) (hz : xs.length * k.toNat ≤ 1000) : OpN S (binaryOp .Mult) (.lst xs) (.int k) (List.replicate k.toNat xs).flatten := fun M H v w a1 a2 Q q => by
  obtain ⟨a, vs, rfl, na, ha, sa⟩ := at_lst a1
  refine ⟨_, fun X c => op_rep, a, k, vs, rfl, at_int a2, ha, by omega, by omega, by rw [sa.len]; exact Nat.le_of_lt (small1000 hz), fun p hp => q p _ _ hp (same_new hp) upd_same ?_⟩
  have rep : ∀ m : Nat, Ats M H (List.replicate m xs).flatten (List.replicate m vs).flatten := fun m => by
    induction m with
    | zero => exact Ats.nil
    | succ m ih =>
      rw [List.replicate_succ, List.replicate_succ, List.flatten_cons, List.flatten_cons]
      exact sa.app ih
  exact ((rep _).more hp).same (same_new hp)
/-- a tuple repeated -/
theorem o_repT {xs : List Dat} {k : Int} (hx : xs ≠ []) (h0 : 2 ≤ k) (h1 : k ≤ 1000) (hz : xs.length ≤ 1000) : Op S (binaryOp .Mult) (.tup xs) (.int k) (.tup (List.replicate k.toNat xs).flatten) := fun M H al v w a1 a2 Q q => by
  obtain ⟨a, vs, rfl, na, ha, sa⟩ := at_tup a1
  refine ⟨rRepT S.K, fun X c => by rw [← c.K]; exact op_repT, a, k, vs, rfl, at_int a2, SqT.of ha, fun e => hx (List.length_eq_zero_iff.mp (by rw [← sa.len, e]; rfl)), h0, h1, by rw [sa.len]; exact hz, fun p hp => q _ _ (same_new hp) (At.tup (fun z => by obtain ⟨o, e⟩ := al p z; rw [hp] at e; cases e) upd_same ?_)⟩
  have rep : ∀ m : Nat, Ats M H (List.replicate m xs).flatten (List.replicate m vs).flatten := fun m => by
    induction m with
    | zero => exact Ats.nil
    | succ m ih =>
      rw [List.replicate_succ, List.replicate_succ, List.flatten_cons, List.flatten_cons]
      exact sa.app ih
  exact (rep _).same (same_new hp)
/-! ### subscripts -/
def wX (S : Sg) : R2 := fun v w H Q => ∃ r, (∀ X, Cl S X → IxR X r) ∧ r v w H Q
theorem wX_ok {X : Cx} (c : Cl S X) : IxR X (wX S) := fun e1 e2 pins s σ H x y v u Q I rx ry ⟨r, h, q⟩ hs => h X c e1 e2 pins s σ H x y v u Q I rx ry q hs
/-- the item at i of a tuple or a list -/
inductive Ix : Dat → Int → Dat → Prop
  | tup {l : List Dat} {i : Int} {d : Dat} : atI l i = some d → Ix (.tup l) i d
  | lst {l : List Dat} {i : Int} {d : Dat} : atI l i = some d → Ix (.lst l) i d
theorem at_atI {M : Mu} {H : Hp} {l : List Dat} {vs : List V} (h : Ats M H l vs) {i : Int} {d : Dat} (e : atI l i = some d) : ∃ v, atI vs i = some v ∧ At M H d v := by
  unfold atI at e ⊢
  rw [h.len]
  cases z : ixN l.length i with
  | none => rw [z] at e; cases e
  | some j =>
    rw [z] at e
    exact h.get e
theorem ev_ix {K : Nat → Dat → Prop} (h : Ev S g a ρ n fun n1 x => Ev S g b ρ n1 fun n2 y => ∃ i z, y = .int i ∧ Ix x i z ∧ K n2 z) (hs : PlainIx b := by intro _ _; rfl) : Ev S g (.Subscript a b pos) ρ n K := fun M Hb ad σ H E Q q =>
  ⟨tOp (wX S) (wE S a) (wE S b), fun X c => pe_ix (wX_ok c) (wE_ok c) (wE_ok c) hs, h M Hb ad σ H E _ fun n1 v H1 x k1 j1 a1 r => r M Hb ad σ H1 (E.keep k1 j1) _ fun n2 w H2 y k2 j2 a2 ⟨i, z, ey, hx, kz⟩ => by
    subst ey
    have a1' := (E.keep k1 j1).at_ k2 a1
    cases hx with
    | tup e =>
      obtain ⟨p, vs, rfl, np, hp, sp⟩ := at_tup a1'
      obtain ⟨u, e1, e2⟩ := at_atI sp e
      exact ⟨rIxT S.K, fun X c => by rw [← c.K]; exact ix_tup, p, vs, i, u, rfl, at_int a2, SqT.of hp, e1, q n2 u H2 z (k1.trans k2) j2 e2 kz⟩
    | lst e =>
      obtain ⟨p, vs, rfl, np, hp, sp⟩ := at_lst a1'
      obtain ⟨u, e1, e2⟩ := at_atI sp e
      exact ⟨rIxL S.K, fun X c => by rw [← c.K]; exact ix_list, p, vs, i, u, rfl, at_int a2, SqL.of hp, e1, q n2 u H2 z (k1.trans k2) j2 e2 kz⟩⟩
theorem ed_ix {x z : Dat} {i : Int} (ha : Ed S g a ρ x) (hb : Ed S g b ρ (.int i)) (h : Ix x i z) (hs : PlainIx b := by intro _ _; rfl) : Ed S g (.Subscript a b pos) ρ z := fun n => ev_ix (ha.ev (hb.ev ⟨i, z, rfl, h, rfl, rfl⟩)) hs
/-- a written place -/
theorem ed_ixT {l : List Dat} {z : Dat} {i : Int} (ha : Ed S g a ρ (.tup l)) (hb : Ed S g b ρ (.int i)) (h : atI l i = some z) (hs : PlainIx b := by intro _ _; rfl) : Ed S g (.Subscript a b pos) ρ z := ed_ix ha hb (.tup h) hs
theorem ed_ixL {l : List Dat} {z : Dat} {i : Int} (ha : Ed S g a ρ (.lst l)) (hb : Ed S g b ρ (.int i)) (h : atI l i = some z) (hs : PlainIx b := by intro _ _; rfl) : Ed S g (.Subscript a b pos) ρ z := ed_ix ha hb (.lst h) hs
/-! slices -/
def cutD (xs : List Dat) (lo hi : Option Int) : List Dat := (xs.drop (HT.sIx xs.length 0 lo)).take (HT.sIx xs.length xs.length hi - HT.sIx xs.length 0 lo)
theorem cut_ats {M : Mu} {H : Hp} {l : List Dat} {vs : List V} (h : Ats M H l vs) (lo hi : Option Int) : Ats M H (cutD l lo hi) (cutV vs lo hi) := by
  unfold cutD cutV
  rw [h.len]
  exact (h.drop _).take _
/-- a part of a slice -/
inductive Pt (S : Sg) (g : Wd) (ρ : En) : Option Expr → Option Int → Prop
  | none : Pt S g ρ none none
  | some {e : Expr} {i : Int} : Ed S g e ρ (.int i) → Pt S g ρ (some e) (some i)
def wP (S : Sg) (e : Option Expr) : TO := match e with
  | none => tNoPart
  | some e => tPart (wE S e)
theorem wP_ok {X : Cx} (c : Cl S X) : ∀ {e : Option Expr}, PO X e (wP S e)
  | none => po_none
  | some e => po_some (wE_ok c)
theorem pt_run {M : Mu} {Hb H : Hp} {ad : Nat → Addr} {σ : L2.St} {o : Option Expr} {i : Option Int} (h : Pt S g ρ o i) (E : EnvOk g M Hb ad n σ H ρ) {Q : Option Int → Hp → Prop} (q : ∀ H', Kw g H H' → g.J n H' → Q i H') : wP S o σ H Q := by
  cases h with
  | none => exact q H (Kw.refl H) E.j
  | some h => exact h n M Hb ad σ H E _ fun n' v H' d k j a ⟨e1, e2⟩ => ⟨_, at_int (by rw [e2] at a; exact a), q H' k (by rw [← e1]; exact j)⟩
def wL (S : Sg) : V → Option Int → Option Int → Hp → VK → Prop := fun x lo hi H Q => ∃ r, (∀ X, Cl S X → SlR X r) ∧ r x lo hi H Q
theorem wL_ok {X : Cx} (c : Cl S X) : SlR X (wL S) := fun pins s σ H x v vl vu lo hi sl Q I rx h1 h2 h3 ⟨r, h, q⟩ => h X c pins s σ H x v vl vu lo hi sl Q I rx h1 h2 h3 q
theorem edn_slice {lo hi : Option Expr} {l h : Option Int} {xs : List Dat} {p2 : Pos} (he : Ed S g a ρ (.lst xs)) (hl : Pt S g ρ lo l) (hh : Pt S g ρ hi h) : EdN S g (.Subscript a (.Slice lo hi none p2) pos) ρ (cutD xs l h) := fun n M Hb ad σ H E Q q =>
  ⟨tSl (wL S) (wE S a) (wP S lo) (wP S hi), fun X c => pe_slice (wL_ok c) (wE_ok c) (wP_ok c) (wP_ok c), he n M Hb ad σ H E _ fun n1 v H1 x k1 j1 a1 ⟨e1, e2⟩ => by
    subst e1 e2
    refine pt_run hl (E.keep k1 j1) fun H2 k2 j2 => pt_run hh ((E.keep k1 j1).keep k2 j2) fun H3 k3 j3 => ?_
    obtain ⟨b, us, rfl, nb, hb, sb⟩ := at_lst (((E.keep k1 j1).keep k2 j2).at_ k3 ((E.keep k1 j1).at_ k2 a1))
    refine ⟨rSlL S.K, fun X c => by rw [← c.K]; exact sl_list, b, us, rfl, SqL.of hb, fun p hp => ?_⟩
    exact q _ p _ _ _ (E.fresh_back ((k1.trans k2).trans k3) j3 hp) (((k1.trans k2).trans k3).trans (Kw.of (same_new hp))) (g.js _ _ _ j3 (same_new hp)) upd_same (((cut_ats sb l h).more hp).same (same_new hp)) ⟨rfl, rfl⟩⟩
theorem ed_sliceT {lo hi : Option Expr} {l h : Option Int} {xs : List Dat} {p2 : Pos} (he : Ed S g a ρ (.tup xs)) (hl : Pt S g ρ lo l) (hh : Pt S g ρ hi h) : Ed S g (.Subscript a (.Slice lo hi none p2) pos) ρ (.tup (cutD xs l h)) := fun n M Hb ad σ H E Q q =>
  ⟨tSl (wL S) (wE S a) (wP S lo) (wP S hi), fun X c => pe_slice (wL_ok c) (wE_ok c) (wP_ok c) (wP_ok c), he n M Hb ad σ H E _ fun n1 v H1 x k1 j1 a1 ⟨e1, e2⟩ => by
    subst e1 e2
    refine pt_run hl (E.keep k1 j1) fun H2 k2 j2 => pt_run hh ((E.keep k1 j1).keep k2 j2) fun H3 k3 j3 => ?_
    have a3 := ((E.keep k1 j1).keep k2 j2).at_ k3 ((E.keep k1 j1).at_ k2 a1)
    obtain ⟨b, us, rfl, nb, hb, sb⟩ := at_tup a3
    refine ⟨rSlA S.K, fun X c => by rw [← c.K]; exact sl_tupA, b, us, rfl, SqT.of hb, fun ⟨w1, w2⟩ => ?_, fun _ p hp => ?_⟩
    · have ec : cutD xs l h = xs := by
        unfold cutD
        rw [sb.len] at w1 w2
        rw [w1, w2, List.drop_zero, Nat.sub_zero, List.take_length]
      refine q _ _ H3 _ ((k1.trans k2).trans k3) j3 ?_ ⟨rfl, rfl⟩
      rw [ec]
      exact a3
    · exact q _ _ _ _ (((k1.trans k2).trans k3).trans (Kw.of (same_new hp))) (g.js _ _ _ j3 (same_new hp)) (At.tup ((((E.keep k1 j1).keep k2 j2).keep k3 j3).mfresh hp) upd_same ((cut_ats sb l h).same (same_new hp))) ⟨rfl, rfl⟩⟩
theorem edn_rev {xs : List Dat} {k : Nat} {p1 p2 p3 : Pos} (he : Ed S g a ρ (.lst xs)) : EdN S g (.Subscript a (.Slice none none (some (.UnaryOp .USub (.Constant (.int 1) k p1) p2)) p3) pos) ρ xs.reverse := fun n M Hb ad σ H E Q q =>
  ⟨tRevL S.K (wE S a), fun X c => by rw [← c.K]; exact pe_revL (wE_ok c), he n M Hb ad σ H E _ fun n1 v H1 x k1 j1 a1 ⟨e1, e2⟩ => by
    subst e1 e2
    obtain ⟨b, us, rfl, nb, hb, sb⟩ := at_lst a1
    exact ⟨b, us, rfl, SqL.of hb, fun p hp => q _ p _ _ _ (E.fresh_back k1 j1 hp) (k1.trans (Kw.of (same_new hp))) (g.js _ _ _ j1 (same_new hp)) upd_same ((sb.rev.more hp).same (same_new hp)) ⟨rfl, rfl⟩⟩⟩
end
end Kb
/-! rules over data: targets, what is walked, comprehensions, statements, the call of a def -/
namespace Kb
open PySem PySem.Spec PyProof.Rows L2
/-! ### targets -/
def Gd (S : Sg) (g : Wd) (tg : Expr) (ρ : En) (d : Dat) (is : List Nat) (ρ' : En) : Prop := ∀ M Hb ad n σ H v, EnvOk g M Hb ad n σ H ρ → At (Mx M ad ρ) H d v → ∀ Q : L2.St → Hp → Prop,
  (∀ σ', EnvOk g M Hb ad n σ' H ρ' → σ'.length = σ.length → (∀ j, j ∉ is → σ'[j]? = σ[j]?) → (∀ a, Mx M ad ρ' a → Mx M ad ρ a) → Q σ' H) → wG S tg v σ H Q
def Gds (S : Sg) (g : Wd) (ts : List Expr) (ρ : En) (ds : List Dat) (is : List Nat) (ρ' : En) : Prop := ∀ M Hb ad n σ H vs, EnvOk g M Hb ad n σ H ρ → Ats (Mx M ad ρ) H ds vs → ∀ Q : L2.St → Hp → Prop,
  (∀ σ', EnvOk g M Hb ad n σ' H ρ' → σ'.length = σ.length → (∀ j, j ∉ is → σ'[j]? = σ[j]?) → (∀ a, Mx M ad ρ' a → Mx M ad ρ a) → Q σ' H) → wGs S ts vs σ H Q
/-- the name x at slot i may be stored -/
def stB (S : Sg) (i : Nat) (x : Str) : Bool := decide (S.N[i]? = some x) && (match S.sc.names.lookup x with
  | some .local => true
  | some .cell => S.fn x
  | _ => false)
theorem stB_ok {S : Sg} {i : Nat} {x : Str} (h : stB S i x = true) : S.N[i]? = some x ∧ Loc S.sc x ∧ (S.fn x = true ∨ S.sc.names.lookup x = some .local) := by
  unfold stB at h
  simp only [Bool.and_eq_true, decide_eq_true_eq] at h
  refine ⟨h.1, ?_⟩
  have h2 := h.2
  split at h2
  · rename_i z; exact ⟨.inl z, .inr z⟩
  · rename_i z; exact ⟨.inr z, .inl h2⟩
  · cases h2
section
variable {S : Sg} {g : Wd} {e a b c tg iter elt : Expr} {es rest ifs : List Expr} {ρ ρ1 ρ2 : En} {n : Nat} {pos p : Pos} {x : Str} {d : Dat}
theorem pg_nm {X : Cx} (c : Cl S X) (nd : S.N.Nodup) {i : Nat} (h : stB S i x = true) : PG X (.Name x pos) (gName i) := by
  obtain ⟨h1, h2, h3⟩ := stB_ok h
  exact pg_name (by rw [c.N]; exact nd) (by rw [c.N]; exact h1) (by rw [c.sc]; exact h2) (by rw [c.fn, c.sc]; exact h3)
theorem gd_nm (nd : S.N.Nodup) (i : Nat) (h : stB S i x = true) : Gd S g (.Name x pos) ρ d [i] (ρ.set i (.dat d)) := fun M Hb ad n σ H v E a Q q =>
  ⟨gName i, fun X c => pg_nm c nd h, q _ (E.set a) (by rw [List.length_set]) (fun j hj => List.getElem?_set_ne (fun z => hj (by simp [z]))) (Mx.set_no (fun _ => by intro z; cases z))⟩
theorem gds_nil : Gds S g [] ρ [] [] ρ := fun M Hb ad n σ H vs E a Q q => ⟨gNil, fun X c => pgs_nil, a.nil_inv, q σ E rfl (fun _ _ => rfl) fun _ z => z⟩
theorem gds_cons {ds : List Dat} {is js : List Nat} (h : Gd S g e ρ d is ρ1) (r : Gds S g es ρ1 ds js ρ2) (hs : ∀ env, (assignEach (e :: es) env).map (·.2) = assign e env :: (assignEach es env).map (·.2) := by intro _; rfl) : Gds S g (e :: es) ρ (d :: ds) (is ++ js) ρ2 := fun M Hb ad n σ H vs E a Q q => by
  obtain ⟨v, us, rfl, a1, a2⟩ := a.cons_inv
  refine ⟨gCons (wG S e) (wGs S es), fun X c => pgs_cons (wG_ok c) (wGs_ok c) (hs _), v, us, rfl, h M Hb ad n σ H v E a1 _ fun σ1 E1 l1 k1 m1 => ?_⟩
  refine r M Hb ad n σ1 H us E1 (a2.mono m1 fun _ _ _ z => z) Q fun σ2 E2 l2 k2 m2 => ?_
  exact q σ2 E2 (l2.trans l1) (fun j hj => (k2 j fun z => hj (List.mem_append_right _ z)).trans (k1 j fun z => hj (List.mem_append_left _ z))) fun a z => m1 a (m2 a z)
theorem gd_tup {k : Nat} {ds : List Dat} {is : List Nat} (h : Gds S g es ρ ds is ρ1) (hn : ∀ env, (assignEach es env).length = ds.length := by intro _; rfl) (hst : ∀ env, (assignEach es env).findIdx? (·.1) = none := by intro _; rfl) : Gd S g (.Tuple es k pos) ρ (.tup ds) is ρ1 := fun M Hb ad n σ H v E a Q q => by
  obtain ⟨b, vs, rfl, nb, hb, sb⟩ := at_tup a
  exact ⟨gTup S.K ds.length (wGs S es), fun X c => by rw [← c.K]; exact pg_tup c.calm (wGs_ok c) (hn _) (hst _), b, vs, rfl, SqT.of hb, sb.len, h M Hb ad n σ H vs E sb Q q⟩
/-! ### what is walked -/
/-- J yields xs from H1 on, whatever else changes -/
def Yl (M1 : Mu) (H1 : Hp) (J : It) (xs : List Dat) : Prop := ∀ (H2 : Hp) (M2 : Mu), (∀ a o, ¬ M1 a → H1 a = some o → H2 a = some o) → (∀ a, M2 a → ∃ o, H2 a = some o) → (∀ a, M2 a → M1 a ∨ H1 a = none) →
  (∀ (i : Nat) x, xs[i]? = some x → J.go i H2 ∧ ∀ v H3, J.yld i H2 v H3 → Same H2 H3 ∧ At M2 H3 x v) ∧ J.stop xs.length H2
def EvI (S : Sg) (g : Wd) (tg iter : Expr) (ρ : En) (n : Nat) (K : Nat → List Dat → Prop) : Prop := ∀ M Hb ad σ H, EnvOk g M Hb ad n σ H ρ → ∀ R : It → Hp → Prop,
  (∀ n' J H' xs, Kw g H H' → g.J n' H' → Yl (Mx M ad ρ) H' J xs → K n' xs → R J H') → wI S tg iter σ H R
theorem yl_lst {K : PySem.W.Frag} {M1 : Mu} {H1 : Hp} {a : Addr} {vs : List V} {xs : List Dat} (na : ¬ M1 a) (ha : H1 a = some (.lst vs)) (s : Ats M1 H1 xs vs) : Yl M1 H1 (Itl K a) xs := fun H2 M2 k al m => by
  have h2 := k a _ na ha
  have uq : ∀ ys, SqL K H2 a ys → H2 a = some (.lst ys) ∨ ys = vs ∨ True := fun _ _ => .inr (.inr trivial)
  refine ⟨fun i x e => ?_, ⟨vs, SqL.of h2, by rw [s.len]; exact Nat.le_refl _⟩⟩
  obtain ⟨v, e1, e2⟩ := s.get e
  refine ⟨⟨vs, v, SqL.of h2, e1⟩, fun u H3 y => ?_⟩
  obtain ⟨rfl, y⟩ := y
  have eu : u = v := Option.some.inj ((y vs (SqL.of h2)).symm.trans e1)
  subst eu
  exact ⟨Same.refl _, e2.shift k m⟩
theorem yl_tup {K : PySem.W.Frag} {M1 : Mu} {H1 : Hp} {a : Addr} {vs : List V} {xs : List Dat} (na : ¬ M1 a) (ha : H1 a = some (.tup vs)) (s : Ats M1 H1 xs vs) : Yl M1 H1 (Itt K a) xs := fun H2 M2 k al m => by
  have h2 := k a _ na ha
  refine ⟨fun i x e => ?_, ⟨vs, SqT.of h2, by rw [s.len]; exact Nat.le_refl _⟩⟩
  obtain ⟨v, e1, e2⟩ := s.get e
  refine ⟨⟨vs, v, SqT.of h2, e1⟩, fun u H3 y => ?_⟩
  obtain ⟨rfl, y⟩ := y
  have eu : u = v := Option.some.inj ((y vs (SqT.of h2)).symm.trans e1)
  subst eu
  exact ⟨Same.refl _, e2.shift k m⟩
theorem ei_lst {K : Nat → List Dat → Prop} (h : Ev S g e ρ n fun n1 d => ∃ xs, d = .lst xs ∧ K n1 xs) : EvI S g tg e ρ n K := fun M Hb ad σ H E R q =>
  ⟨iList S.K (wE S e), fun X c => by rw [← c.K]; exact pi_list (wE_ok c), h M Hb ad σ H E _ fun n' v H' d k j a ⟨xs, ed, kx⟩ => by
    subst ed
    obtain ⟨b, vs, rfl, nb, hb, sb⟩ := at_lst a
    exact ⟨b, rfl, ⟨vs, SqL.of hb⟩, q n' _ H' xs k j (yl_lst nb hb sb) kx⟩⟩
theorem ei_tup {K : Nat → List Dat → Prop} (h : Ev S g e ρ n fun n1 d => ∃ xs, d = .tup xs ∧ K n1 xs) : EvI S g tg e ρ n K := fun M Hb ad σ H E R q =>
  ⟨iTup S.K (wE S e), fun X c => by rw [← c.K]; exact pi_tup (wE_ok c), h M Hb ad σ H E _ fun n' v H' d k j a ⟨xs, ed, kx⟩ => by
    subst ed
    obtain ⟨b, vs, rfl, nb, hb, sb⟩ := at_tup a
    exact ⟨b, rfl, ⟨vs, SqT.of hb⟩, q n' _ H' xs k j (yl_tup nb hb sb) kx⟩⟩
abbrev EdI (S : Sg) (g : Wd) (tg iter : Expr) (ρ : En) (xs : List Dat) : Prop := ∀ n, EvI S g tg iter ρ n fun n' x => n' = n ∧ x = xs
theorem EdI.ev {xs : List Dat} {K : Nat → List Dat → Prop} (h : EdI S g tg iter ρ xs) (k : K n xs) : EvI S g tg iter ρ n K := fun M Hb ad σ H E R q =>
  h n M Hb ad σ H E R fun n' J H' ys a1 a2 a3 a4 => q n' J H' ys a1 a2 a3 (by rw [a4.1, a4.2]; exact k)
theorem EdI.is {xs ys : List Dat} (h : EdI S g tg iter ρ xs) (e : xs = ys) : EdI S g tg iter ρ ys := e ▸ h
theorem edi_lst {xs : List Dat} (h : Ed S g e ρ (.lst xs)) : EdI S g tg e ρ xs := fun n => ei_lst (h.ev ⟨xs, rfl, rfl, rfl⟩)
theorem edi_tup {xs : List Dat} (h : Ed S g e ρ (.tup xs)) : EdI S g tg e ρ xs := fun n => ei_tup (h.ev ⟨xs, rfl, rfl, rfl⟩)
/-- a built-in's name that the def does not bind, nor the module -/
def glB (sc : Scope) (x : Str) : Bool := decide (sc.names.lookup x = some .globalImplicit) && !(x == ("__debug__" : Str))
theorem glB_ok {sc : Scope} {x : Str} (h : glB sc x = true) : sc.names.lookup x = some .globalImplicit ∧ (x == ("__debug__" : Str)) = false := by
  unfold glB at h
  simpa only [Bool.and_eq_true, decide_eq_true_eq, Bool.not_eq_true'] using h
theorem gl_of {X : Cx} (c : Cl S X) (h : glB S.sc x = true) : Gl X x := by
  show X.env.scope.names.lookup x = some .globalImplicit
  rw [c.sc]
  exact (glB_ok h).1
/-- 0, 1, .. below n -/
def rgD (lo : Int) (n : Nat) : List Dat := (List.range n).map fun i => .int (lo + (i : Nat))
theorem rgD_len (lo : Int) (n : Nat) : (rgD lo n).length = n := by unfold rgD; rw [List.length_map, List.length_range]
theorem rgD_get {lo : Int} {n i : Nat} (h : i < n) : (rgD lo n)[i]? = some (.int (lo + (i : Nat))) := by unfold rgD; rw [List.getElem?_map, List.getElem?_range h]; rfl
theorem yl_rng {M1 : Mu} {H1 : Hp} {lo : Int} {n : Nat} : Yl M1 H1 (Itr lo n) (rgD lo n) := fun H2 M2 k al m => by
  refine ⟨fun i x e => ?_, by rw [rgD_len]; exact Nat.le_refl _⟩
  have hi : i < n := by have := (List.getElem?_eq_some_iff.mp e).1; rwa [rgD_len] at this
  rw [rgD_get hi] at e
  cases e
  refine ⟨hi, fun v H3 y => ?_⟩
  obtain ⟨rfl, rfl⟩ := y
  exact ⟨Same.refl _, At.int⟩
theorem ei_rng1 {K : Nat → List Dat → Prop} (hg : glB S.sc "range" = true) (hm : S.mg "range" = none) (h : Ev S g e ρ n fun n1 d => ∃ j : Int, d = .int j ∧ j < 2 ^ 30 ∧ -(2 ^ 30) < j ∧ K n1 (rgD 0 j.toNat)) (hs : ∀ env, starEach [e] env = [(false, eval e env)] := by intro _; rfl) : EvI S g tg (.Call (.Name "range" p) [e] [] pos) ρ n K := fun M Hb ad σ H E R q =>
  ⟨iRng1 (tCons (wE S e) tNil), fun X c => pi_range1 (gl_of c hg) (by rw [c.mg]; exact hm) (pa_cons (wE_ok c) pa_nil (hs _)) (hs _), h M Hb ad σ H E _ fun n' v H' d k j a ⟨i, ed, i1, i2, kx⟩ => by
    subst ed
    exact ⟨i, by rw [at_int a], by omega, by omega, q n' _ H' _ k j yl_rng kx⟩⟩
theorem edi_rng1 {j : Int} (hg : glB S.sc "range" = true) (hm : S.mg "range" = none) (h : Ed S g e ρ (.int j)) (h1 : j < 2 ^ 30) (h2 : -(2 ^ 30) < j) (hs : ∀ env, starEach [e] env = [(false, eval e env)] := by intro _; rfl) : EdI S g tg (.Call (.Name "range" p) [e] [] pos) ρ (rgD 0 j.toNat) := fun n =>
  ei_rng1 hg hm (h.ev ⟨j, rfl, h1, h2, rfl, rfl⟩) hs
theorem yl_enum {K : PySem.W.Frag} {M1 : Mu} {H1 : Hp} {a : Addr} {vs : List V} {xs : List Dat} (na : ¬ M1 a) (ha : H1 a = some (.lst vs)) (s : Ats M1 H1 xs vs) : Yl M1 H1 (Ite K a) (xs.zipIdx.map fun p => .tup [.int (p.2 : Nat), p.1]) := fun H2 M2 k al m => by
  have h2 := k a _ na ha
  refine ⟨fun i x e => ?_, ⟨vs, SqL.of h2, by rw [List.length_map, List.length_zipIdx, s.len]; exact Nat.le_refl _⟩⟩
  rw [List.getElem?_map, List.getElem?_zipIdx] at e
  cases ex : xs[i]? with
  | none => rw [ex] at e; cases e
  | some d =>
    rw [ex] at e
    cases e
    obtain ⟨v, e1, e2⟩ := s.get ex
    refine ⟨⟨vs, v, SqL.of h2, e1⟩, fun u H3 y => ?_⟩
    obtain ⟨T, w, rfl, hT, rfl, y⟩ := y
    have eu : w = v := Option.some.inj ((y vs (SqL.of h2)).symm.trans e1)
    subst eu
    refine ⟨same_new hT, At.tup (fun z => ?_) upd_same (Ats.cons ?_ (Ats.one ((e2.shift k m).same (same_new hT))))⟩
    · obtain ⟨o, q⟩ := al T z
      rw [hT] at q
      cases q
    · rw [Nat.zero_add]
      exact At.int
theorem edi_enum {xs : List Dat} {elts : List Expr} {kk : Nat} {tpos : Pos} (hg : glB S.sc "enumerate" = true) (hm : S.mg "enumerate" = none) (h : Ed S g e ρ (.lst xs)) (hs : ∀ env, starEach [e] env = [(false, eval e env)] := by intro _; rfl) : EdI S g (.Tuple elts kk tpos) (.Call (.Name "enumerate" p) [e] [] pos) ρ (xs.zipIdx.map fun p => .tup [.int (p.2 : Nat), p.1]) := fun n M Hb ad σ H E R q =>
  ⟨iEnum S.K (tCons (wE S e) tNil), fun X c => by rw [← c.K]; exact pi_enum (gl_of c hg) (by rw [c.mg]; exact hm) (pa_cons (wE_ok c) pa_nil (hs _)) (hs _), h n M Hb ad σ H E _ fun n' v H' d k j a ⟨e1, e2⟩ => by
    subst e1 e2
    obtain ⟨b, vs, rfl, nb, hb, sb⟩ := at_lst a
    exact ⟨b, vs, rfl, SqL.of hb, q _ _ H' _ k j (yl_enum nb hb sb) ⟨rfl, rfl⟩⟩⟩
/-! ### comprehensions -/
/-- the block's contexts -/
def Sg.blk (S : Sg) (scope : Scope) : Sg := { S with sc := relS scope S.sc, fn := fun x => scope.names.lookup x == some .cell }
theorem cl_blk {X : Cx} (c : Cl S X) (s : Shared) (H : Hp) (scope : Scope) (C : Addr) (cl : List (Str × Addr)) (fp : List Addr) : Cl (S.blk scope) (X.blk s H scope (compEnvC scope cl C X.env) fp) :=
  ⟨c.P, c.w, c.K, c.mg, c.base, c.A, c.N, by show relS scope X.env.scope = relS scope S.sc; rw [c.sc], rfl, c.calm, rfl⟩
def hidS : Sl → Sl
  | .own _ => .no
  | s => s
def wipeE (ρ : En) : List Nat → En
  | [] => ρ.map hidS
  | v :: vs => (wipeE ρ vs).set v .no
theorem wipeE_len (ρ : En) : ∀ vs, (wipeE ρ vs).length = ρ.length
  | [] => by unfold wipeE; rw [List.length_map]
  | v :: vs => by unfold wipeE; rw [List.length_set, wipeE_len ρ vs]
theorem wipe_out {σ : L2.St} {i : Nat} : ∀ {vs : List Nat}, i ∉ vs → (wipe σ vs)[i]? = σ[i]?
  | [], _ => rfl
  | v :: vs, h => by
    unfold wipe
    rw [List.getElem?_set_ne (fun z => h (by simp [z]))]
    exact wipe_out fun z => h (List.mem_cons_of_mem _ z)
theorem wipeE_at {ρ : En} {i : Nat} {s : Sl} : ∀ {vs : List Nat}, (wipeE ρ vs)[i]? = some s → s = .no ∨ (i ∉ vs ∧ ρ[i]? = some s ∧ ∀ l, s ≠ .own l)
  | [], h => by
    unfold wipeE at h
    rw [List.getElem?_map] at h
    cases e : ρ[i]? with
    | none => rw [e] at h; cases h
    | some u =>
      rw [e] at h
      cases h
      cases u with
      | own l => exact .inl rfl
      | no => exact .inl rfl
      | dat d => exact .inr ⟨by simp, rfl, fun l => by intro z; cases z⟩
      | raw a => exact .inr ⟨by simp, rfl, fun l => by intro z; cases z⟩
  | v :: vs, h => by
    unfold wipeE at h
    rcases getElem?_set' h with ⟨_, z⟩ | ⟨nv, z⟩
    · exact .inl z
    · rcases wipeE_at z with z | ⟨z1, z2, z3⟩
      · exact .inl z
      · exact .inr ⟨by simp only [List.mem_cons, not_or]; exact ⟨nv, z1⟩, z2, z3⟩
theorem wipe_eq {σ τ : L2.St} {vs : List Nat} (hl : τ.length = σ.length) (h : ∀ j, j ∉ vs → τ[j]? = σ[j]?) : wipe τ vs = wipe σ vs := by
  apply List.ext_getElem?
  intro j
  by_cases hj : j ∈ vs
  · have key : ∀ (σ : L2.St) (vs : List Nat), j ∈ vs → (wipe σ vs)[j]? = if j < σ.length then some none else none := by
      intro σ vs
      induction vs with
      | nil => intro h; cases h
      | cons v vs ih =>
        intro h
        unfold wipe
        by_cases e : v = j
        · subst e
          rw [List.getElem?_set, if_pos rfl, wipe_length]
        · rw [List.getElem?_set_ne e]
          exact ih (by
            rcases List.mem_cons.mp h with z | z
            · exact absurd z.symm e
            · exact z)
    rw [key τ vs hj, key σ vs hj, hl]
  · rw [wipe_out hj, wipe_out hj, h j hj]
theorem wipe_wipe (σ : L2.St) (vs : List Nat) : wipe (wipe σ vs) vs = wipe σ vs := wipe_eq (wipe_length σ vs) fun j hj => wipe_out hj
/-- the state at a block's start, the new list at p -/
theorem EnvOk.blk {M : Mu} {Hb H H1 : Hp} {ad : Nat → Addr} {σ : L2.St} {n1 : Nat} (E : EnvOk g M Hb ad n σ H ρ) (k : Kw g H H1) (j : g.J n1 H1) {p : Addr} (hp : H1 p = none) {o : HO} (vs : List Nat) :
    EnvOk g (fun a => Mx M ad ρ a ∨ a = p) H1 ad n1 (wipe σ vs) (upd H1 p o) (wipeE ρ vs) := by
  have E1 := E.keep k j
  have mm : ∀ a, Mx (fun a => Mx M ad ρ a ∨ a = p) ad (wipeE ρ vs) a → (Mx M ad ρ a ∨ a = p) := fun a h => by
    rcases h with h | ⟨i, l, e, q⟩
    · exact h
    · rcases wipeE_at e with z | ⟨_, _, z⟩
      · cases z
      · exact absurd rfl (z l)
  refine ⟨Kw.of (same_new hp), g.js _ _ _ j (same_new hp), fun a h => .inl (E.wx a h), fun a h => ?_, by rw [wipe_length, wipeE_len]; exact E.len, fun i d e => ?_, fun i ds e => ?_, fun i a e => ?_, fun i l ds es e1 e2 e3 => ?_⟩
  · rcases h with h | h
    · obtain ⟨u, e⟩ := E1.mal h
      exact ⟨u, same_new hp _ _ e⟩
    · exact ⟨o, by rw [h]; exact upd_same⟩
  · rcases wipeE_at e with z | ⟨z1, z2, z3⟩
    · cases z
    · obtain ⟨v, h1, h2⟩ := E1.dat i d z2
      exact ⟨v, by rw [wipe_out z1]; exact h1, ((h2.more hp).same (same_new hp)).mono mm fun _ _ _ q => q⟩
  · rcases wipeE_at e with z | ⟨z1, z2, z3⟩
    · cases z
    · exact absurd rfl (z3 ds)
  · rcases wipeE_at e with z | ⟨z1, z2, z3⟩
    · cases z
    · rw [wipe_out z1]
      exact E.raw i a z2
  · rcases wipeE_at e1 with z | ⟨_, _, z⟩
    · cases z
    · exact absurd rfl (z ds)
theorem mx_blk {M : Mu} {ad : Nat → Addr} {vs : List Nat} : ∀ a, Mx M ad (wipeE ρ vs) a → M a := fun a h => by
  rcases h with h | ⟨i, l, e, q⟩
  · exact h
  · rcases wipeE_at e with z | ⟨_, _, z⟩
    · cases z
    · exact absurd rfl (z l)
/-- what a comprehension walks and makes -/
structure Lc (S' : Sg) (g : Wd) (tg elt : Expr) (ifs : List Expr) (ρ' : En) (own : List Nat) (n1 : Nat) (xs : List Dat) (K : Nat → List Dat → Prop) (I : Nat → Nat → List Dat → Prop) : Prop where
  start : I 0 n1 []
  turn : ∀ (i : Nat) x n2 acc, xs[i]? = some x → I i n2 acc → acc.length ≤ 1000 ∧ ∃ is ρ2, (∀ j ∈ is, j ∈ own) ∧ Gd S' g tg ρ' x is ρ2 ∧ EvTs S' g ifs ρ2 n2 fun n3 b => (b = true → Ev S' g elt ρ2 n3 fun n4 d => I (i + 1) n4 (acc ++ [d])) ∧ (b = false → I (i + 1) n3 acc)
  done : ∀ n2 acc, I xs.length n2 acc → K n2 acc
theorem tLc_run {scope : Scope} {own : List (Str × Nat)} {M : Mu} {Hb H : Hp} {ad : Nat → Addr} {σ : L2.St} {K : Nat → List Dat → Prop} (h : EvI S g tg iter ρ n fun n1 xs => ∃ I, Lc (S.blk scope) g tg elt ifs (wipeE ρ (own.map (·.2))) (own.map (·.2)) n1 xs K I)
    (E : EnvOk g M Hb ad n σ H ρ) (Q : VK) (q : ∀ n' p us H' ds, H p = none → Kw g H H' → g.J n' H' → H' p = some (.lst us) → Ats (fun a => Mx M ad ρ a ∨ a = p) H' ds us → K n' ds → Q (.ref p) H') :
    tLc (wI S tg iter) (wG (S.blk scope) tg) (wTs (S.blk scope) ifs) (wE (S.blk scope) elt) (own.map (·.2)) σ H Q :=
  h M Hb ad σ H E _ fun n1 J H1 xs k1 j1 y1 ⟨I, L⟩ D hD => by
    have fD : H D = none := E.fresh_back k1 j1 hD
    have E1 := E.keep k1 j1
    -- the state at turn i
    refine ⟨fun i m H2 => m = xs.length - i ∧ i ≤ xs.length ∧ ∃ n2 acc us, I i n2 acc ∧ H2 D = some (.lst us) ∧ Ats (fun a => Mx M ad ρ a ∨ a = D) H2 acc us ∧ Kw g H1 H2 ∧ g.J n2 H2, ⟨xs.length, rfl, Nat.zero_le _, n1, [], [], L.start, upd_same, Ats.nil, Kw.of (same_new hD), g.js _ _ _ j1 (same_new hD)⟩, ?_⟩
    rintro i m H2 ⟨rfl, hi, n2, acc, us, hI, hD2, sa, k2, j2⟩
    have nD : ¬ Mx M ad ρ D := E1.mfresh hD
    have E2 : EnvOk g (fun a => Mx M ad ρ a ∨ a = D) H1 ad n2 (wipe σ (own.map (·.2))) H2 (wipeE ρ (own.map (·.2))) := by
      have z := (E.blk k1 j1 hD (o := .lst us) (own.map (·.2)))
      refine ⟨k2, j2, z.wm, fun a ha => ?_, z.len, fun i d e => ?_, fun i ds e => ?_, z.raw, z.inj⟩
      · rcases ha with ha | ha
        · obtain ⟨o, e⟩ := E1.mal ha
          by_cases w : g.W a
          · exact g.ja _ _ _ j2 (g.wf a w)
          · exact ⟨o, k2 a o w e⟩
        · exact ⟨_, by rw [ha]; exact hD2⟩
      · rcases wipeE_at e with z' | ⟨z1, z2, z3⟩
        · cases z'
        · obtain ⟨v, h1, h2⟩ := E1.dat i d z2
          refine ⟨v, by rw [wipe_out z1]; exact h1, ((h2.more hD).mono (fun a h => mx_blk a h) fun a o na e => k2 a o (fun w => na (.inl (E1.wx a w))) e)⟩
      · rcases wipeE_at e with z' | ⟨z1, z2, z3⟩
        · cases z'
        · exact absurd rfl (z3 ds)
    have kk : ∀ a o, ¬ Mx M ad ρ a → H1 a = some o → H2 a = some o := fun a o na e => k2 a o (fun w => na (E1.wx a w)) e
    have al2 : ∀ a, (Mx M ad ρ a ∨ a = D) → ∃ o, H2 a = some o := E2.al
    have yy := y1 H2 (fun a => Mx M ad ρ a ∨ a = D) kk al2 fun a z => z.elim .inl fun e => .inr (by rw [e]; exact hD)
    by_cases hlt : i < xs.length
    · refine .inr ?_
      have ex : xs[i]? = some xs[i] := List.getElem?_eq_getElem hlt
      obtain ⟨go, yi⟩ := yy.1 i _ ex
      obtain ⟨hz, is, ρ2, his, hg, ht⟩ := L.turn i _ n2 acc ex hI
      refine ⟨go, fun H' => ∃ n2 acc us, I (i + 1) n2 acc ∧ H' D = some (.lst us) ∧ Ats (fun a => Mx M ad ρ a ∨ a = D) H' acc us ∧ Kw g H1 H' ∧ g.J n2 H', fun H' z => ⟨xs.length - (i + 1), by omega, rfl, hlt, z⟩, fun v H3 y => ?_⟩
      obtain ⟨s3, a3⟩ := yi v H3 y
      have E3 := E2.same s3
      refine hg _ H1 ad n2 _ H3 v E3 (a3.mono (fun a z => mx_blk a z) fun _ _ _ e => e) _ fun σ3 E3' l3 o3 m3 => ⟨?_, ?_⟩
      · rw [wipe_eq l3 fun j hj => o3 j fun z => hj (his j z), wipe_wipe]
      refine ht _ H1 ad σ3 H3 E3' _ fun n4 b H4 k4 j4 ⟨rb, rf⟩ => ?_
      cases b with
      | true =>
        refine iteT ?_
        refine rb rfl _ H1 ad σ3 H4 (E3'.keep k4 j4) _ fun n5 u H5 d k5 j5 a5 hI5 => ?_
        have nw : ¬ g.W D := E1.wfresh hD
        have e5 : H5 D = some (.lst us) := k5 D _ nw (k4 D _ nw (s3 D _ hD2))
        have sub : ∀ a, (Mx M ad ρ a ∨ a = D) → Mx (fun a => Mx M ad ρ a ∨ a = D) ad ρ2 a := fun a z => .inl z
        have s5 : Ats (fun a => Mx M ad ρ a ∨ a = D) H5 acc us := sa.mono (fun _ z => z) fun a o na e => k5 a o (fun w => na (.inl (E1.wx a w))) (k4 a o (fun w => na (.inl (E1.wx a w))) (s3 a o e))
        refine ⟨us, e5, by rw [sa.len]; exact small1000 hz, n5, acc ++ [d], us ++ [u], hI5, upd_same, ?_, ?_, ?_⟩
        · have t5 := s5.app (Ats.one (a5.mono sub fun _ _ _ e => e))
          exact t5.mono (fun _ z => z) fun a o na e => by rw [upd_ne (fun z => na (.inr z))]; exact e
        · intro a o w e
          rw [upd_ne (ne_of_none e hD)]
          exact (((k2.trans (Kw.of s3)).trans k4).trans k5) a o w e
        · exact g.jm _ _ _ _ j5 (E1.ffresh hD)
      | false =>
        refine iteF ?_
        have nw : ¬ g.W D := E1.wfresh hD
        exact ⟨n4, acc, us, rf rfl, k4 D _ nw (s3 D _ hD2), sa.mono (fun _ z => z) fun a o na e => k4 a o (fun w => na (.inl (E1.wx a w))) (s3 a o e), (k2.trans (Kw.of s3)).trans k4, j4⟩
    · have e : i = xs.length := by omega
      subst e
      exact .inl ⟨yy.2, q n2 D us H2 acc fD (k1.trans k2) j2 hD2 sa (L.done n2 acc hI)⟩
theorem evn_lc {scope : Scope} {K : Nat → List Dat → Prop} (nd : S.N.Nodup) (own : List (Str × Nat)) (ok : blkC S.N S.sc scope own = true) (h : EvI S g tg iter ρ n fun n1 xs => ∃ I, Lc (S.blk scope) g tg elt ifs (wipeE ρ (own.map (·.2))) (own.map (·.2)) n1 xs K I)
    (hs : ∀ env x, foldedSetIterable iter env x = pure x := by intro _ _; rfl) : EvN S g (.ListComp elt [⟨tg, iter, ifs, 0⟩] scope pos) ρ n K := fun M Hb ad σ H E Q q =>
  ⟨tLc (wI S tg iter) (wG (S.blk scope) tg) (wTs (S.blk scope) ifs) (wE (S.blk scope) elt) (own.map (·.2)),
    fun X c => pe_lc c.calm (by rw [c.N]; exact nd) (wI_ok c) (by rw [c.N, c.sc]; exact blkOk_by ok) (fun s H C cl fp => wG_ok (cl_blk c s H scope C cl fp)) (fun s H C cl fp => wTs_ok (cl_blk c s H scope C cl fp)) (fun s H C cl fp => wE_ok (cl_blk c s H scope C cl fp)) (hs _),
    tLc_run h E Q q⟩
theorem ets_nil {K : Nat → Bool → Prop} (k : K n true) : EvTs S g [] ρ n K := fun M Hb ad σ H E Q q => ⟨tYes, fun X c => pts_nil, q n true H (Kw.refl H) E.j k⟩
theorem ets_one {K : Nat → Bool → Prop} (h : EvT S g c ρ n K) : EvTs S g [c] ρ n K := fun M Hb ad σ H E Q q => ⟨wT S c, fun X cl => pts_one (wT_ok cl), h M Hb ad σ H E Q q⟩
theorem etds_nil : EdTs S g [] ρ true := fun n => ets_nil ⟨rfl, rfl⟩
theorem etds_one {b : Bool} (h : EdT S g c ρ b) : EdTs S g [c] ρ b := fun n => ets_one (h n)
theorem lc_pure {α : Type} {scope : Scope} (own : List (Str × Nat)) {ys : List α} {enc : α → Dat} {t : α → Bool} {f : α → Dat} (hi : EdI S g tg iter ρ (ys.map enc)) (hz : ys.length ≤ 1000)
    (h : ∀ y ∈ ys, ∃ is ρ2, (∀ j ∈ is, j ∈ own.map (·.2)) ∧ Gd (S.blk scope) g tg (wipeE ρ (own.map (·.2))) (enc y) is ρ2 ∧ EdTs (S.blk scope) g ifs ρ2 (t y) ∧ (t y = true → Ed (S.blk scope) g elt ρ2 (f y))) (n : Nat) :
    EvI S g tg iter ρ n fun n1 xs => ∃ I, Lc (S.blk scope) g tg elt ifs (wipeE ρ (own.map (·.2))) (own.map (·.2)) n1 xs (fun n' ds => n' = n ∧ ds = (ys.filter t).map f) I :=
  hi.ev ⟨fun i n2 acc => n2 = n ∧ acc = ((ys.take i).filter t).map f, ⟨rfl, rfl⟩, fun i x n2 acc e ⟨en, ea⟩ => by
    rw [List.getElem?_map] at e
    cases ey : ys[i]? with
    | none => rw [ey] at e; cases e
    | some y =>
      rw [ey] at e
      cases e
      obtain ⟨is, ρ2, h1, h2, h3, h4⟩ := h y (List.mem_of_getElem? ey)
      have et : ys.take (i + 1) = ys.take i ++ [y] := by rw [List.take_add_one, ey]; rfl
      refine ⟨?_, is, ρ2, h1, h2, ?_⟩
      · rw [ea, List.length_map]
        exact Nat.le_trans (List.length_filter_le _ _) (Nat.le_trans (by rw [List.length_take]; exact Nat.min_le_right _ _) hz)
      · subst en
        intro M Hb ad σ H E Q q
        refine h3 _ M Hb ad σ H E Q fun n' b H' k j ⟨e1, e2⟩ => ?_
        subst e1 e2
        refine q n' (t y) H' k j ⟨fun tb => (h4 tb).ev ⟨rfl, ?_⟩, fun tb => ⟨rfl, ?_⟩⟩
        · rw [ea, et, List.filter_append, List.map_append, List.filter_cons, if_pos tb]
          rfl
        · rw [ea, et, List.filter_append, List.map_append, List.filter_cons, if_neg (by rw [tb]; decide)]
          show _ = _ ++ []
          rw [List.append_nil], fun n2 acc ⟨en, ea⟩ => ⟨en, by rw [ea, List.length_map, List.take_length]⟩⟩
/-- a pure comprehension: over ys by enc, those with t, as f says -/
theorem edn_lc {α : Type} {scope : Scope} (nd : S.N.Nodup) (own : List (Str × Nat)) (ok : blkC S.N S.sc scope own = true) {ys : List α} {enc : α → Dat} {t : α → Bool} {f : α → Dat} (hi : EdI S g tg iter ρ (ys.map enc)) (hz : ys.length ≤ 1000)
    (h : ∀ y ∈ ys, ∃ is ρ2, (∀ j ∈ is, j ∈ own.map (·.2)) ∧ Gd (S.blk scope) g tg (wipeE ρ (own.map (·.2))) (enc y) is ρ2 ∧ EdTs (S.blk scope) g ifs ρ2 (t y) ∧ (t y = true → Ed (S.blk scope) g elt ρ2 (f y)))
    (hs : ∀ env x, foldedSetIterable iter env x = pure x := by intro _ _; rfl) : EdN S g (.ListComp elt [⟨tg, iter, ifs, 0⟩] scope pos) ρ ((ys.filter t).map f) := fun n =>
  evn_lc nd own ok (lc_pure own hi hz h n) hs
theorem filter_true {α : Type} (l : List α) : l.filter (fun _ => true) = l := List.filter_eq_self.mpr fun _ _ => rfl
/-- .. without a test -/
theorem edn_lcm {α : Type} {scope : Scope} (nd : S.N.Nodup) (own : List (Str × Nat)) (ok : blkC S.N S.sc scope own = true) {ys : List α} {enc : α → Dat} {f : α → Dat} (hi : EdI S g tg iter ρ (ys.map enc)) (hz : ys.length ≤ 1000)
    (h : ∀ y ∈ ys, ∃ is ρ2, (∀ j ∈ is, j ∈ own.map (·.2)) ∧ Gd (S.blk scope) g tg (wipeE ρ (own.map (·.2))) (enc y) is ρ2 ∧ Ed (S.blk scope) g elt ρ2 (f y))
    (hs : ∀ env x, foldedSetIterable iter env x = pure x := by intro _ _; rfl) : EdN S g (.ListComp elt [⟨tg, iter, [], 0⟩] scope pos) ρ (ys.map f) :=
  (edn_lc (t := fun _ => true) nd own ok hi hz (fun y hy => by
    obtain ⟨is, ρ2, h1, h2, h3⟩ := h y hy
    exact ⟨is, ρ2, h1, h2, etds_nil, fun _ => h3⟩) hs).is (by rw [filter_true])
end
end Kb
/-! two clauses; statements; the call of a def -/
namespace Kb
open PySem PySem.Spec PyProof.Rows L2
section
variable {S : Sg} {g : Wd} {e a b c tg iter elt tg1 iter1 : Expr} {es rest ifs : List Expr} {ρ ρ1 ρ2 : En} {n : Nat} {pos p : Pos} {x : Str} {d : Dat}
/-! ### two clauses -/
def wipeN (ρ : En) : List Nat → En
  | [] => ρ
  | v :: vs => (wipeN ρ vs).set v .no
theorem wipeN_len (ρ : En) : ∀ vs, (wipeN ρ vs).length = ρ.length
  | [] => rfl
  | v :: vs => by unfold wipeN; rw [List.length_set, wipeN_len ρ vs]
theorem wipeN_at {ρ : En} {i : Nat} {s : Sl} : ∀ {vs : List Nat}, (wipeN ρ vs)[i]? = some s → s = .no ∨ (i ∉ vs ∧ ρ[i]? = some s)
  | [], h => .inr ⟨by simp, h⟩
  | v :: vs, h => by
    unfold wipeN at h
    rcases getElem?_set' h with ⟨_, z⟩ | ⟨nv, z⟩
    · exact .inl z
    · rcases wipeN_at z with z | ⟨z1, z2⟩
      · exact .inl z
      · exact .inr ⟨by simp only [List.mem_cons, not_or]; exact ⟨nv, z1⟩, z2⟩
theorem EnvOk.wipeN {M : Mu} {Hb H : Hp} {ad : Nat → Addr} {σ : L2.St} (E : EnvOk g M Hb ad n σ H ρ) (vs : List Nat) : EnvOk g M Hb ad n (L2.wipe σ vs) H (Kb.wipeN ρ vs) :=
  E.less (by rw [wipe_length, wipeN_len]; exact E.len) fun i s e => by
    rcases wipeN_at e with z | ⟨z1, z2⟩
    · exact .inl z
    · exact .inr ⟨z2, Kb.wipe_out z1⟩
/-- no own slots in it -/
def NoOwn (ρ : En) : Prop := ∀ (i : Nat) l, ρ[i]? ≠ some (.own l)
theorem noOwn_mx {M : Mu} {ad : Nat → Addr} (h : NoOwn ρ) : ∀ a, Mx M ad ρ a → M a := fun a z => by
  rcases z with z | ⟨i, l, e, q⟩
  · exact z
  · exact absurd e (h i l)
theorem noOwn_wipeE (ρ : En) (vs : List Nat) : NoOwn (wipeE ρ vs) := fun i l e => by
  rcases wipeE_at e with z | ⟨_, _, z⟩
  · cases z
  · exact absurd rfl (z l)
theorem noOwn_wipeN {ρ : En} (h : NoOwn ρ) (vs : List Nat) : NoOwn (wipeN ρ vs) := fun i l e => by
  rcases wipeN_at e with z | ⟨_, z⟩
  · cases z
  · exact h i l z
theorem lc2_run {α β : Type} {scope : Scope} (own : List (Str × Nat)) (vs1 : List Nat) (hv : ∀ i ∈ vs1, i ∈ own.map (·.2)) {ys : List α} {enc : α → Dat} {zs : α → List β} {enc1 : β → Dat} {f : α → β → Dat} (hi : EdI S g tg iter ρ (ys.map enc)) (hz : (ys.flatMap fun y => (zs y).map (f y)).length ≤ 1000)
    (h : ∀ y ∈ ys, ∃ is ρ2, (∀ j ∈ is, j ∈ own.map (·.2)) ∧ NoOwn ρ2 ∧ Gd (S.blk scope) g tg (wipeE ρ (own.map (·.2))) (enc y) is ρ2 ∧ EdI (S.blk scope) g tg1 iter1 ρ2 ((zs y).map enc1) ∧
      ∀ z ∈ zs y, ∃ is1 ρ3, (∀ j ∈ is1, j ∈ vs1) ∧ Gd (S.blk scope) g tg1 (wipeN ρ2 vs1) (enc1 z) is1 ρ3 ∧ Ed (S.blk scope) g elt ρ3 (f y z))
    {M : Mu} {Hb H : Hp} {ad : Nat → Addr} {σ : L2.St} (n : Nat) (E : EnvOk g M Hb ad n σ H ρ) (Q : VK) (q : ∀ n' p us H' ds, H p = none → Kw g H H' → g.J n' H' → H' p = some (.lst us) → Ats (fun a => Mx M ad ρ a ∨ a = p) H' ds us → (n' = n ∧ ds = ys.flatMap fun y => (zs y).map (f y)) → Q (.ref p) H') :
    tLc2 (wI S tg iter) (wG (S.blk scope) tg) tYes (wI (S.blk scope) tg1 iter1) (wG (S.blk scope) tg1) tYes (wE (S.blk scope) elt) (own.map (·.2)) vs1 σ H Q :=
    hi n M Hb ad σ H E _ fun n1 J H1 xs k1 j1 y1 ⟨e1, e2⟩ D hD => by
    subst e1 e2
    have fD : H D = none := E.fresh_back k1 j1 hD
    have E1 := E.keep k1 j1
    have nD : ¬ Mx M ad ρ D := E1.mfresh hD
    have nw : ¬ g.W D := E1.wfresh hD
    -- what stands at a point: acc made so far
    let Pt (acc : List Dat) (H2 : Hp) : Prop := ∃ us, H2 D = some (.lst us) ∧ Ats (fun a => Mx M ad ρ a ∨ a = D) H2 acc us ∧ Kw g H1 H2 ∧ g.J n1 H2
    have envB : ∀ acc H2, Pt acc H2 → EnvOk g (fun a => Mx M ad ρ a ∨ a = D) H1 ad n1 (L2.wipe σ (own.map (·.2))) H2 (wipeE ρ (own.map (·.2))) := fun acc H2 ⟨us, hD2, sa, k2, j2⟩ => by
      have z := (E.blk k1 j1 hD (o := .lst us) (own.map (·.2)))
      refine ⟨k2, j2, z.wm, fun a ha => ?_, z.len, fun i d e => ?_, fun i ds e => ?_, z.raw, z.inj⟩
      · rcases ha with ha | ha
        · obtain ⟨o, e⟩ := E1.mal ha
          by_cases w : g.W a
          · exact g.ja _ _ _ j2 (g.wf a w)
          · exact ⟨o, k2 a o w e⟩
        · exact ⟨_, by rw [ha]; exact hD2⟩
      · rcases wipeE_at e with z' | ⟨z1, z2, z3⟩
        · cases z'
        · obtain ⟨v, h1, h2⟩ := E1.dat i d z2
          refine ⟨v, by rw [Kb.wipe_out z1]; exact h1, ((h2.more hD).mono (fun a h => mx_blk a h) fun a o na e => k2 a o (fun w => na (.inl (E1.wx a w))) e)⟩
      · rcases wipeE_at e with z' | ⟨z1, z2, z3⟩
        · cases z'
        · exact absurd rfl (z3 ds)
    have step : ∀ acc H2 H3, Pt acc H2 → Kw g H2 H3 → g.J n1 H3 → Pt acc H3 := fun acc H2 H3 ⟨us, hD2, sa, k2, j2⟩ k3 j3 =>
      ⟨us, k3 D _ nw hD2, sa.mono (fun _ z => z) fun a o na e => k3 a o (fun w => na (.inl (E1.wx a w))) e, k2.trans k3, j3⟩
    have wx : ∀ a, g.W a → (Mx M ad ρ a ∨ a = D) := fun a w => .inl (E1.wx a w)
    let A (i : Nat) : List Dat := (ys.take i).flatMap fun y => (zs y).map (f y)
    have alen : ∀ i, (A i).length ≤ (ys.flatMap fun y => (zs y).map (f y)).length := fun i => by
      have : ys.flatMap (fun y => (zs y).map (f y)) = A i ++ (ys.drop i).flatMap fun y => (zs y).map (f y) := by
        show _ = (ys.take i).flatMap _ ++ _
        rw [← List.flatMap_append, List.take_append_drop]
      rw [this, List.length_append]
      exact Nat.le_add_right _ _
    refine ⟨fun i m H2 => m = ys.length - i ∧ i ≤ ys.length ∧ Pt (A i) H2, ⟨ys.length, rfl, Nat.zero_le _, [], upd_same, Ats.nil, Kw.of (same_new hD), g.js _ _ _ j1 (same_new hD)⟩, ?_⟩
    rintro i m H2 ⟨rfl, hle, P2⟩
    have E2 := envB _ _ P2
    obtain ⟨us2, hD2, sa2, k2, j2⟩ := id P2
    have kk : ∀ a o, ¬ Mx M ad ρ a → H1 a = some o → H2 a = some o := fun a o na e => k2 a o (fun w => na (E1.wx a w)) e
    have yy := y1 H2 (fun a => Mx M ad ρ a ∨ a = D) kk E2.al fun a z => z.elim .inl fun e => .inr (by rw [e]; exact hD)
    by_cases hlt : i < ys.length
    · refine .inr ?_
      have ey : ys[i]? = some ys[i] := List.getElem?_eq_getElem hlt
      obtain ⟨go, yi⟩ := yy.1 i (enc ys[i]) (by rw [List.getElem?_map, ey]; rfl)
      obtain ⟨is, ρ2, his, hno, hg, hi1, hin⟩ := h ys[i] (List.mem_of_getElem? ey)
      have eA : A (i + 1) = A i ++ (zs ys[i]).map (f ys[i]) := by
        show (ys.take (i + 1)).flatMap _ = _
        rw [List.take_add_one, ey, Option.toList_some, List.flatMap_append, List.flatMap_singleton]
      refine ⟨go, fun H' => Pt (A (i + 1)) H', fun H' z => ⟨ys.length - (i + 1), by omega, rfl, hlt, z⟩, fun v H3 y => ?_⟩
      obtain ⟨s3, a3⟩ := yi v H3 y
      have E3 := E2.same s3
      refine hg _ H1 ad n1 _ H3 v E3 (a3.mono (fun a z => mx_blk a z) fun _ _ _ e => e) _ fun σ3 E3' l3 o3 m3 => ⟨?_, iteT (B := Pt (A (i + 1)) H3) ?_⟩
      · rw [wipe_eq l3 fun j hj => o3 j fun z => hj (his j z), wipe_wipe]
      refine hi1 n1 _ H1 ad σ3 H3 E3' _ fun n4 J1 H4 xs4 k4 j4 y4 ⟨e1, e2⟩ => ?_
      rw [e1] at j4
      subst e2
      have P4 := step _ _ _ P2 ((Kw.of s3).trans k4) j4
      have E4 := E3'.keep k4 j4
      have sub : ∀ a, Mx (fun a => Mx M ad ρ a ∨ a = D) ad ρ2 a → (Mx M ad ρ a ∨ a = D) := noOwn_mx hno
      -- the inner turns
      let B (j : Nat) : List Dat := A i ++ ((zs ys[i]).take j).map (f ys[i])
      refine ⟨fun j k H5 => k = (zs ys[i]).length - j ∧ j ≤ (zs ys[i]).length ∧ Pt (B j) H5 ∧ ∀ a o, ¬ (Mx M ad ρ a ∨ a = D) → H4 a = some o → H5 a = some o, ⟨(zs ys[i]).length, rfl, Nat.zero_le _, ?_, fun _ _ _ e => e⟩, ?_⟩
      · show Pt (A i ++ _) H4
        rw [List.take_zero, List.map_nil, List.append_nil]
        exact P4
      rintro j k H5 ⟨rfl, hjl, P5, k5⟩
      obtain ⟨us5, hD5, sa5, kw5, j5⟩ := id P5
      have al5 : ∀ a, (Mx M ad ρ a ∨ a = D) → ∃ o, H5 a = some o := (envB _ _ P5).al
      have yy5 := y4 H5 (fun a => Mx M ad ρ a ∨ a = D) (fun a o na e => k5 a o (fun z => na (.inl z)) e) al5 fun a z => .inl (.inl z)
      by_cases hj : j < (zs ys[i]).length
      · refine .inr ?_
        have ez : (zs ys[i])[j]? = some (zs ys[i])[j] := List.getElem?_eq_getElem hj
        obtain ⟨go5, yi5⟩ := yy5.1 j (enc1 (zs ys[i])[j]) (by rw [List.getElem?_map, ez]; rfl)
        obtain ⟨is1, ρ3, his1, hg1, helt⟩ := hin _ (List.mem_of_getElem? ez)
        refine ⟨go5, fun H' => Pt (B (j + 1)) H' ∧ ∀ a o, ¬ (Mx M ad ρ a ∨ a = D) → H4 a = some o → H' a = some o, fun H' z => ⟨(zs ys[i]).length - (j + 1), by omega, rfl, hj, z⟩, fun w H6 y6 => ?_⟩
        obtain ⟨s6, a6⟩ := yi5 w H6 y6
        have P6 := step _ _ _ P5 (Kw.of s6) (g.js _ _ _ j5 s6)
        obtain ⟨us6, hD6, sa6, kw6, j6⟩ := id P6
        -- the block's state with the outer target bound
        have E6 : EnvOk g (fun a => Mx M ad ρ a ∨ a = D) H1 ad n1 σ3 H6 ρ2 := by
          refine ⟨kw6, j6, E4.wm, (envB _ _ P6).al, E4.len, fun i d e => ?_, fun i ds e => absurd e (hno i ds), E4.raw, E4.inj⟩
          obtain ⟨v, h1, h2⟩ := E4.dat i d e
          exact ⟨v, h1, h2.mono (fun _ z => z) fun a o na q => s6 a o (k5 a o (fun z => na (.inl z)) q)⟩
        have E7 := E6.wipeN vs1
        have sub7 : ∀ a, Mx (fun a => Mx M ad ρ a ∨ a = D) ad (Kb.wipeN ρ2 vs1) a → (Mx M ad ρ a ∨ a = D) := noOwn_mx (noOwn_wipeN hno vs1)
        refine hg1 _ H1 ad n1 _ H6 w E7 (a6.mono sub7 fun _ _ _ e => e) _ fun σ7 E7' l7 o7 m7 => ⟨?_, iteT (B := Pt (B (j + 1)) H6 ∧ ∀ a o, ¬ (Mx M ad ρ a ∨ a = D) → H4 a = some o → H6 a = some o) ?_⟩
        · rw [wipe_eq l7 fun j hj => o7 j fun z => hj (his1 j z), wipe_wipe]
        refine helt n1 _ H1 ad σ7 H6 E7' _ fun n8 u H8 d k8 j8 a8 ⟨e1, e2⟩ => ?_
        rw [e1] at j8
        subst e2
        obtain ⟨us8, hD8, sa8, kw8, j8⟩ := step _ _ _ P6 k8 j8
        have hz8 : (B j).length ≤ 1000 := by
          have h1 : (B j).length ≤ (A (i + 1)).length := by
            rw [eA]
            show (A i ++ _).length ≤ _
            rw [List.length_append, List.length_append, List.length_map, List.length_map, List.length_take]
            omega
          exact Nat.le_trans h1 (Nat.le_trans (alen _) hz)
        refine ⟨us8, hD8, by rw [sa8.len]; exact small1000 hz8, ⟨us8 ++ [u], upd_same, ?_, ?_, g.jm _ _ _ _ j8 (E1.ffresh hD)⟩, ?_⟩
        · have eB : B (j + 1) = B j ++ [f ys[i] (zs ys[i])[j]] := by
            show A i ++ _ = (A i ++ _) ++ _
            rw [List.take_add_one, ez, Option.toList_some, List.map_append, List.append_assoc]
            rfl
          rw [eB]
          have t8 := sa8.app (Ats.one (a8.mono (fun a z => .inl z) fun _ _ _ e => e))
          exact t8.mono (fun _ z => z) fun a o na e => by rw [upd_ne (fun z => na (.inr z))]; exact e
        · intro a o w e
          rw [upd_ne (ne_of_none e hD)]
          exact kw8 a o w e
        · intro a o na e
          rw [upd_ne (fun z => na (.inr z))]
          exact k8 a o (fun w => na (wx a w)) (s6 a o (k5 a o na e))
      · have ej : j = (zs ys[i]).length := by omega
        subst ej
        refine .inl ⟨by have := yy5.2; rwa [List.length_map] at this, ?_⟩
        show Pt (A (i + 1)) H5
        rw [eA]
        have : B (zs ys[i]).length = A i ++ (zs ys[i]).map (f ys[i]) := by
          show A i ++ _ = _
          rw [List.take_length]
        rw [← this]
        exact P5
    · have e : i = ys.length := by omega
      subst e
      refine .inl ⟨by have := yy.2; rwa [List.length_map] at this, q n1 D us2 H2 _ fD (k1.trans k2) j2 hD2 sa2 ⟨rfl, ?_⟩⟩
      show (ys.take ys.length).flatMap _ = _
      rw [List.take_length]
theorem edn_lc2 {α β : Type} {scope : Scope} (nd : S.N.Nodup) (own : List (Str × Nat)) (vs1 : List Nat) (hv : ∀ i ∈ vs1, i ∈ own.map (·.2)) (ok : blkC S.N S.sc scope own = true) {ys : List α} {enc : α → Dat} {zs : α → List β} {enc1 : β → Dat} {f : α → β → Dat} (hi : EdI S g tg iter ρ (ys.map enc)) (hz : (ys.flatMap fun y => (zs y).map (f y)).length ≤ 1000)
    (h : ∀ y ∈ ys, ∃ is ρ2, (∀ j ∈ is, j ∈ own.map (·.2)) ∧ NoOwn ρ2 ∧ Gd (S.blk scope) g tg (wipeE ρ (own.map (·.2))) (enc y) is ρ2 ∧ EdI (S.blk scope) g tg1 iter1 ρ2 ((zs y).map enc1) ∧
      ∀ z ∈ zs y, ∃ is1 ρ3, (∀ j ∈ is1, j ∈ vs1) ∧ Gd (S.blk scope) g tg1 (wipeN ρ2 vs1) (enc1 z) is1 ρ3 ∧ Ed (S.blk scope) g elt ρ3 (f y z))
    (hs : ∀ env x, foldedSetIterable iter env x = pure x := by intro _ _; rfl) (hs1 : ∀ env x, foldedSetIterable iter1 env x = pure x := by intro _ _; rfl) :
    EdN S g (.ListComp elt [⟨tg, iter, [], 0⟩, ⟨tg1, iter1, [], 0⟩] scope pos) ρ (ys.flatMap fun y => (zs y).map (f y)) := fun n M Hb ad σ H E Q q =>
  ⟨tLc2 (wI S tg iter) (wG (S.blk scope) tg) tYes (wI (S.blk scope) tg1 iter1) (wG (S.blk scope) tg1) tYes (wE (S.blk scope) elt) (own.map (·.2)) vs1,
    fun X c => pe_lc2 c.calm (by rw [c.N]; exact nd) (wI_ok c) (by rw [c.N, c.sc]; exact blkOk_by ok) hv (fun s H C cl fp => wG_ok (cl_blk c s H scope C cl fp)) (fun s H C cl fp => pts_nil) (fun s H C cl fp => wI_ok (cl_blk c s H scope C cl fp)) (fun s H C cl fp => wG_ok (cl_blk c s H scope C cl fp)) (fun s H C cl fp => pts_nil) (fun s H C cl fp => wE_ok (cl_blk c s H scope C cl fp)) (hs _) hs1,
    lc2_run own vs1 hv hi hz h n E Q q⟩
/-! ### statements -/
structure DE where
  nx : Nat → En → Prop
  rt : Nat → Dat → Prop
  bk : Nat → En → Prop := fun _ _ => False
  ct : Nat → En → Prop := fun _ _ => False
structure Rf (g : Wd) (M : Mu) (Hb : Hp) (D : DE) (D' : Ends) : Prop where
  nx : ∀ n ad σ H ρ, EnvOk g M Hb ad n σ H ρ → D.nx n ρ → D'.nx σ H
  rt : ∀ n v H d, Kw g Hb H → g.J n H → At M H d v → D.rt n d → D'.rt v H
  bk : ∀ n ad σ H ρ, EnvOk g M Hb ad n σ H ρ → D.bk n ρ → D'.bk σ H
  ct : ∀ n ad σ H ρ, EnvOk g M Hb ad n σ H ρ → D.ct n ρ → D'.ct σ H
def Ex (S : Sg) (g : Wd) (sts : List Stmt) (ρ : En) (n : Nat) (D : DE) : Prop := ∀ M Hb ad σ H D', EnvOk g M Hb ad n σ H ρ → Rf g M Hb D D' → wSs S sts D' σ H
def Ex1 (S : Sg) (g : Wd) (st : Stmt) (ρ : En) (n : Nat) (D : DE) : Prop := ∀ M Hb ad σ H D', EnvOk g M Hb ad n σ H ρ → Rf g M Hb D D' → wS S st D' σ H
theorem x_nil {D : DE} (h : D.nx n ρ) : Ex S g [] ρ n D := fun M Hb ad σ H D' E R => ⟨tNext, fun X c => pss_nil, R.nx n ad σ H ρ E h⟩
theorem x_cons {st : Stmt} {sts : List Stmt} {D : DE} (h : Ex1 S g st ρ n { D with nx := fun n' ρ' => Ex S g sts ρ' n' D }) : Ex S g (st :: sts) ρ n D := fun M Hb ad σ H D' E R =>
  ⟨tSeq (wS S st) (wSs S sts), fun X c => pss_cons (wS_ok c) (wSs_ok c), h M Hb ad σ H _ E ⟨fun n' ad' σ' H' ρ' E' k => k M Hb ad' σ' H' D' E' R, R.rt, R.bk, R.ct⟩⟩
theorem x_one {st : Stmt} {D : DE} (h : Ex1 S g st ρ n D) : Ex S g [st] ρ n D := fun M Hb ad σ H D' E R => ⟨wS S st, fun X c => pss_one (wS_ok c), h M Hb ad σ H D' E R⟩
theorem Ex.imp {sts : List Stmt} {D D1 : DE} (h : Ex S g sts ρ n D) (k1 : ∀ n ρ, D.nx n ρ → D1.nx n ρ) (k2 : ∀ n d, D.rt n d → D1.rt n d) (k3 : ∀ n ρ, D.bk n ρ → D1.bk n ρ) (k4 : ∀ n ρ, D.ct n ρ → D1.ct n ρ) : Ex S g sts ρ n D1 := fun M Hb ad σ H D' E R =>
  h M Hb ad σ H D' E ⟨fun n ad σ H ρ E z => R.nx n ad σ H ρ E (k1 _ _ z), fun n v H d a1 a2 a3 z => R.rt n v H d a1 a2 a3 (k2 _ _ z), fun n ad σ H ρ E z => R.bk n ad σ H ρ E (k3 _ _ z), fun n ad σ H ρ E z => R.ct n ad σ H ρ E (k4 _ _ z)⟩
/-- an own list is no more to change -/
theorem x_freeze {sts : List Stmt} {D : DE} {i : Nat} {xs : List Dat} (hi : ρ[i]? = some (.own xs)) (h : Ex S g sts (ρ.set i (.dat (.lst xs))) n D) : Ex S g sts ρ n D := fun M Hb ad σ H D' E R => h M Hb ad σ H D' (E.freeze hi) R
theorem x_freeze1 {st : Stmt} {D : DE} {i : Nat} {xs : List Dat} (hi : ρ[i]? = some (.own xs)) (h : Ex1 S g st (ρ.set i (.dat (.lst xs))) n D) : Ex1 S g st ρ n D := fun M Hb ad σ H D' E R => h M Hb ad σ H D' (E.freeze hi) R
theorem x_ret {D : DE} (h : Ev S g e ρ n D.rt) : Ex1 S g (.Return (some e) pos) ρ n D := fun M Hb ad σ H D' E R =>
  ⟨tRet (wE S e), fun X c => ps_ret (wE_ok c), h M Hb ad σ H E _ fun n' v H' d k j a kd => R.rt n' v H' d (E.kp.trans k) j (a.mono (fun _ z => .inl z) fun _ _ _ z => z) kd⟩
theorem x_if {p q : List Stmt} {D : DE} (h : EvT S g c ρ n fun n1 b => (b = true → Ex S g p ρ n1 D) ∧ (b = false → Ex S g q ρ n1 D)) : Ex1 S g (.If c p q pos) ρ n D := fun M Hb ad σ H D' E R =>
  ⟨tIfS (wT S c) (wSs S p) (wSs S q), fun X cl => ps_if (wT_ok cl) (wSs_ok cl) (wSs_ok cl), h M Hb ad σ H E _ fun n1 b H1 k j ⟨r1, r2⟩ => by
    cases b with
    | true => exact iteT (r1 rfl M Hb ad σ H1 D' (E.keep k j) R)
    | false => exact iteF (r2 rfl M Hb ad σ H1 D' (E.keep k j) R)⟩
theorem xd_if {p q : List Stmt} {D : DE} {b : Bool} (h : EdT S g c ρ b) (h1 : b = true → Ex S g p ρ n D) (h2 : b = false → Ex S g q ρ n D) : Ex1 S g (.If c p q pos) ρ n D := x_if (h.ev ⟨h1, h2⟩)
/-- name = e: a datum -/
theorem x_set {py : Pos} {D : DE} (nd : S.N.Nodup) (i : Nat) (hst : stB S i x = true) (h : Ev S g e ρ n fun n1 d => D.nx n1 (ρ.set i (.dat d))) (hs : ∀ env, swapsWith e (some (.Name x py)) pos.line env = pure false := by intro _; rfl) : Ex1 S g (.Assign [.Name x py] e pos) ρ n D := fun M Hb ad σ H D' E R => by
  obtain ⟨h1, h2, h3⟩ := stB_ok hst
  exact ⟨tAsg (wE S e) (gName i), fun X c => ps_set (by rw [c.N]; exact nd) (by rw [c.N]; exact h1) (by rw [c.sc]; exact h2) (wE_ok c) (hs _) (by rw [c.fn, c.sc]; exact h3), h M Hb ad σ H E _ fun n1 v H1 d k j a kd =>
    R.nx n1 ad _ H1 _ ((E.keep k j).set a) kd⟩
theorem xd_set {py : Pos} {D : DE} {d : Dat} (nd : S.N.Nodup) (i : Nat) (hst : stB S i x = true) (h : Ed S g e ρ d) (k : D.nx n (ρ.set i (.dat d))) (hs : ∀ env, swapsWith e (some (.Name x py)) pos.line env = pure false := by intro _; rfl) : Ex1 S g (.Assign [.Name x py] e pos) ρ n D := x_set nd i hst (h.ev k) hs
/-- name = e: a new list, to change -/
theorem x_setN {py : Pos} {D : DE} (nd : S.N.Nodup) (i : Nat) (hst : stB S i x = true) (hi : i < ρ.length) (h : EvN S g e ρ n fun n1 ds => D.nx n1 (ρ.set i (.own ds))) (hs : ∀ env, swapsWith e (some (.Name x py)) pos.line env = pure false := by intro _; rfl) : Ex1 S g (.Assign [.Name x py] e pos) ρ n D := fun M Hb ad σ H D' E R => by
  obtain ⟨h1, h2, h3⟩ := stB_ok hst
  exact ⟨tAsg (wE S e) (gName i), fun X c => ps_set (by rw [c.N]; exact nd) (by rw [c.N]; exact h1) (by rw [c.sc]; exact h2) (wE_ok c) (hs _) (by rw [c.fn, c.sc]; exact h3), h M Hb ad σ H E _ fun n1 p us H1 ds f k j hp s kd =>
    R.nx n1 _ _ H1 _ (E.setOwn hi f k j hp s) kd⟩
/-- name = [..] on one line, the name a local that the comprehension does not bind -/
def lcB (S : Sg) (scope : Scope) (i : Nat) (x : Str) (l1 l2 : Nat) : Bool := decide (S.N[i]? = some x) && (decide (S.sc.names.lookup x = some .local) && (decide (S.sc.kind = .function) && ((l1 == l2) && !(scope.names.any fun (n, k) => n == x && (k == .local || k == .cell)))))
theorem x_setLc {scope : Scope} {py p0 : Pos} {D : DE} {K : Nat → List Dat → Prop} (nd : S.N.Nodup) (i : Nat) (hst : lcB S scope i x py.line p0.line = true) (own : List (Str × Nat)) (ok : blkC S.N S.sc scope own = true) (h : EvI S g tg iter ρ n fun n1 xs => ∃ I, Lc (S.blk scope) g tg elt ifs (wipeE ρ (own.map (·.2))) (own.map (·.2)) n1 xs K I)
    (kd : (∀ n1 ds, K n1 ds → D.nx n1 (ρ.set i (.dat (.lst ds)))) ∨ (i < ρ.length ∧ ∀ n1 ds, K n1 ds → D.nx n1 (ρ.set i (.own ds)))) (hs : ∀ env x, foldedSetIterable iter env x = pure x := by intro _ _; rfl) : Ex1 S g (.Assign [.Name x py] (.ListComp elt [⟨tg, iter, ifs, 0⟩] scope p0) pos) ρ n D := fun M Hb ad σ H D' E R => by
  unfold lcB at hst
  simp only [Bool.and_eq_true, decide_eq_true_eq, Bool.not_eq_true'] at hst
  obtain ⟨h1, h2, h3, h4, h5⟩ := hst
  refine ⟨tAsg (tLc (wI S tg iter) (wG (S.blk scope) tg) (wTs (S.blk scope) ifs) (wE (S.blk scope) elt) (own.map (·.2))) (gName i), fun X c => ps_setLc c.calm (by rw [c.N]; exact nd) (by rw [c.N]; exact h1) (by rw [c.sc]; exact h2) (sw_true (by rw [c.sc]; exact h3) (by rw [c.sc]; exact h2) h4 h5) (wI_ok c) (by rw [c.N, c.sc]; exact blkOk_by ok)
    (fun s H C cl fp => wG_ok (cl_blk c s H scope C cl fp)) (fun s H C cl fp => wTs_ok (cl_blk c s H scope C cl fp)) (fun s H C cl fp => wE_ok (cl_blk c s H scope C cl fp)) (hs _), ?_⟩
  refine tLc_run (K := K) h E _ fun n1 p us H1 ds f k j hp s kds => ?_
  rcases kd with kd | ⟨hi, kd⟩
  · refine R.nx n1 ad _ H1 _ ((E.keep k j).set (At.lst (E.mfresh f) hp (s.mono (fun _ z => .inl z) fun _ _ _ z => z))) (kd _ _ kds)
  · exact R.nx n1 _ _ H1 _ (E.setOwn hi f k j hp s) (kd _ _ kds)
/-- name = [..], pure: a datum or a list to change -/
theorem x_setLcP {α : Type} {scope : Scope} {py p0 : Pos} {D : DE} (nd : S.N.Nodup) (i : Nat) (hst : lcB S scope i x py.line p0.line = true) (own : List (Str × Nat)) (ok : blkC S.N S.sc scope own = true) {ys : List α} {enc : α → Dat} {t : α → Bool} {f : α → Dat} (hi : EdI S g tg iter ρ (ys.map enc)) (hz : ys.length ≤ 1000)
    (h : ∀ y ∈ ys, ∃ is ρ2, (∀ j ∈ is, j ∈ own.map (·.2)) ∧ Gd (S.blk scope) g tg (wipeE ρ (own.map (·.2))) (enc y) is ρ2 ∧ EdTs (S.blk scope) g ifs ρ2 (t y) ∧ (t y = true → Ed (S.blk scope) g elt ρ2 (f y)))
    (kd : D.nx n (ρ.set i (.dat (.lst ((ys.filter t).map f)))) ∨ (i < ρ.length ∧ D.nx n (ρ.set i (.own ((ys.filter t).map f))))) (hs : ∀ env x, foldedSetIterable iter env x = pure x := by intro _ _; rfl) : Ex1 S g (.Assign [.Name x py] (.ListComp elt [⟨tg, iter, ifs, 0⟩] scope p0) pos) ρ n D :=
  x_setLc nd i hst own ok (lc_pure own hi hz h n) (kd.imp (fun k n1 ds e => by rw [e.1, e.2]; exact k) fun k => ⟨k.1, fun n1 ds e => by rw [e.1, e.2]; exact k.2⟩) hs
theorem x_setLcM {α : Type} {scope : Scope} {py p0 : Pos} {D : DE} (nd : S.N.Nodup) (i : Nat) (hst : lcB S scope i x py.line p0.line = true) (own : List (Str × Nat)) (ok : blkC S.N S.sc scope own = true) {ys : List α} {enc : α → Dat} {f : α → Dat} (hi : EdI S g tg iter ρ (ys.map enc)) (hz : ys.length ≤ 1000)
    (h : ∀ y ∈ ys, ∃ is ρ2, (∀ j ∈ is, j ∈ own.map (·.2)) ∧ Gd (S.blk scope) g tg (wipeE ρ (own.map (·.2))) (enc y) is ρ2 ∧ Ed (S.blk scope) g elt ρ2 (f y))
    (kd : D.nx n (ρ.set i (.dat (.lst (ys.map f)))) ∨ (i < ρ.length ∧ D.nx n (ρ.set i (.own (ys.map f))))) (hs : ∀ env x, foldedSetIterable iter env x = pure x := by intro _ _; rfl) : Ex1 S g (.Assign [.Name x py] (.ListComp elt [⟨tg, iter, [], 0⟩] scope p0) pos) ρ n D :=
  x_setLcP (t := fun _ => true) nd i hst own ok hi hz (fun y hy => by
    obtain ⟨is, ρ2, h1, h2, h3⟩ := h y hy
    exact ⟨is, ρ2, h1, h2, etds_nil, fun _ => h3⟩) (by rw [filter_true]; exact kd) hs
theorem x_setLc2 {α β : Type} {scope : Scope} {py p0 : Pos} {D : DE} (nd : S.N.Nodup) (i : Nat) (hst : lcB S scope i x py.line p0.line = true) (own : List (Str × Nat)) (vs1 : List Nat) (hv : ∀ i ∈ vs1, i ∈ own.map (·.2)) (ok : blkC S.N S.sc scope own = true) {ys : List α} {enc : α → Dat} {zs : α → List β} {enc1 : β → Dat} {f : α → β → Dat} (hi : EdI S g tg iter ρ (ys.map enc)) (hz : (ys.flatMap fun y => (zs y).map (f y)).length ≤ 1000)
    (h : ∀ y ∈ ys, ∃ is ρ2, (∀ j ∈ is, j ∈ own.map (·.2)) ∧ NoOwn ρ2 ∧ Gd (S.blk scope) g tg (wipeE ρ (own.map (·.2))) (enc y) is ρ2 ∧ EdI (S.blk scope) g tg1 iter1 ρ2 ((zs y).map enc1) ∧
      ∀ z ∈ zs y, ∃ is1 ρ3, (∀ j ∈ is1, j ∈ vs1) ∧ Gd (S.blk scope) g tg1 (wipeN ρ2 vs1) (enc1 z) is1 ρ3 ∧ Ed (S.blk scope) g elt ρ3 (f y z))
    (kd : D.nx n (ρ.set i (.dat (.lst (ys.flatMap fun y => (zs y).map (f y))))) ∨ (i < ρ.length ∧ D.nx n (ρ.set i (.own (ys.flatMap fun y => (zs y).map (f y))))))
    (hs : ∀ env x, foldedSetIterable iter env x = pure x := by intro _ _; rfl) (hs1 : ∀ env x, foldedSetIterable iter1 env x = pure x := by intro _ _; rfl) : Ex1 S g (.Assign [.Name x py] (.ListComp elt [⟨tg, iter, [], 0⟩, ⟨tg1, iter1, [], 0⟩] scope p0) pos) ρ n D := fun M Hb ad σ H D' E R => by
  unfold lcB at hst
  simp only [Bool.and_eq_true, decide_eq_true_eq, Bool.not_eq_true'] at hst
  obtain ⟨h1, h2, h3, h4, h5⟩ := hst
  refine ⟨tAsg (tLc2 (wI S tg iter) (wG (S.blk scope) tg) tYes (wI (S.blk scope) tg1 iter1) (wG (S.blk scope) tg1) tYes (wE (S.blk scope) elt) (own.map (·.2)) vs1) (gName i), fun X c => ps_setLc2 c.calm (by rw [c.N]; exact nd) (by rw [c.N]; exact h1) (by rw [c.sc]; exact h2) (sw_true (by rw [c.sc]; exact h3) (by rw [c.sc]; exact h2) h4 h5) (wI_ok c) (by rw [c.N, c.sc]; exact blkOk_by ok) hv
    (fun s H C cl fp => wG_ok (cl_blk c s H scope C cl fp)) (fun s H C cl fp => pts_nil) (fun s H C cl fp => wI_ok (cl_blk c s H scope C cl fp)) (fun s H C cl fp => wG_ok (cl_blk c s H scope C cl fp)) (fun s H C cl fp => pts_nil) (fun s H C cl fp => wE_ok (cl_blk c s H scope C cl fp)) (hs _) hs1, ?_⟩
  refine lc2_run own vs1 hv hi hz h n E _ fun n1 p us H1 ds f k j hp s kds => ?_
  obtain ⟨rfl, rfl⟩ := kds
  rcases kd with kd | ⟨hi, kd⟩
  · exact R.nx _ ad _ H1 _ ((E.keep k j).set (At.lst (E.mfresh f) hp (s.mono (fun _ z => .inl z) fun _ _ _ z => z))) kd
  · exact R.nx _ _ _ H1 _ (E.setOwn hi f k j hp s) kd
/-- an expression whose value is dropped -/
theorem x_expr {D : DE} (h : Ev S g e ρ n fun n1 _ => D.nx n1 ρ) (hs : ∀ env, swapsWith e none pos.line env = pure false := by intro _; rfl) : Ex1 S g (.Expr e pos) ρ n D := fun M Hb ad σ H D' E R =>
  ⟨tDrop (wE S e), fun X c => ps_expr (wE_ok c) (hs _), h M Hb ad σ H E _ fun n1 v H1 d k j a kd => R.nx n1 ad σ H1 ρ (E.keep k j) kd⟩
/-- xs.append(e), xs an own list -/
theorem x_app {apos cpos : Pos} {D : DE} {xs : List Dat} (i : Nat) (hn : nmB S.N S.sc i x = true) (hi : ρ[i]? = some (.own xs)) (hz : xs.length ≤ 1000) (h : Ev S g e ρ n fun n1 d => D.nx n1 (ρ.set i (.own (xs ++ [d]))))
    (hst : ∀ env, starEach [e] env = (false, eval e env) :: starEach [] env := by intro _; rfl) (hs : ∀ env, swapsWith (.Call (.Attribute (.Name x p) "append" apos) [e] [] cpos) none pos.line env = pure false := by intro _; rfl)
    (hm : ∀ X : Cx, PE X (.Name x p) (tVar i) → PE X e (wE S e) → PE X (.Call (.Attribute (.Name x p) "append" apos) [e] [] cpos) (tBM X.K "list" rAppend (tVar i) (tCons (wE S e) tNil)) := by
      intro X h1 h2; exact pe_bm PySem.F.plainAttrs_list PySem.F.slot_list_append PySem.F.type_list_append mt_append h1 (pa_cons h2 pa_nil)) :
    Ex1 S g (.Expr (.Call (.Attribute (.Name x p) "append" apos) [e] [] cpos) pos) ρ n D := fun M Hb ad σ H D' E R => by
  obtain ⟨o1, o2, o3, o4, vs, o5, o6⟩ := E.own i xs hi
  refine ⟨tDrop (tBM S.K "list" rAppend (tVar i) (tCons (wE S e) tNil)), fun X c => ps_expr (by rw [← c.K]; exact hm X (pe_nm c hn) (wE_ok c)) (hs _), .ref (ad i), o1, .inl ⟨rfl, _, SqL.of o5⟩, h M Hb ad σ H E _ fun n1 v H1 d k j a kd => ?_⟩
  have E1 := E.keep k j
  obtain ⟨p1, p2, p3, p4, us, p5, p6⟩ := E1.own i xs hi
  exact ⟨ad i, us, v, rfl, rfl, p5, by rw [p6.len]; exact small1000 hz, R.nx n1 ad σ _ _ (E1.mut hi (p6.app (Ats.one a))) kd⟩
/-- xs[j] = e, xs an own list -/
theorem x_put {tpos : Pos} {D : DE} {xs : List Dat} (i : Nat) (hn : nmB S.N S.sc i x = true) (hi : ρ[i]? = some (.own xs)) (h : Ev S g e ρ n fun n1 d => Ev S g b ρ n1 fun n2 y => ∃ (k : Int) (j : Nat), y = .int k ∧ ixN xs.length k = some j ∧ D.nx n2 (ρ.set i (.own (xs.set j d))))
    (ha : ∀ (env : Env) (v : Value), assign (.Subscript (.Name x p) b tpos) env v = (do
      let ov ← holding [v] (eval (.Name x p) env)
      let iv ← holding [v, ov] (eval b env)
      standAt tpos
      holding [v, ov, iv] (setItem ov iv v)
      release [v, ov, iv] []) := by intro _ _; rfl) (hs : ∀ env, swapsWithSole [.Subscript (.Name x p) b tpos] e pos.line env = pure false := by intro _; rfl) (hw : ∀ env, swappedStores [.Subscript (.Name x p) b tpos] e env = pure none := by intro _; rfl)
    (h1 : ∀ env, (assignEach [.Subscript (.Name x p) b tpos] env).map (·.2) = [assign (.Subscript (.Name x p) b tpos) env] := by intro _; rfl) : Ex1 S g (.Assign [.Subscript (.Name x p) b tpos] e pos) ρ n D := fun M Hb ad σ H D' E R =>
  ⟨tAsg (wE S e) (gSub (tVar i) (wE S b) rSetL), fun X c => ps_asg (wE_ok c) (pg_sub (pe_nm c hn) (wE_ok c) set_list (ha _)) (hs _) (hw _) (h1 _), h M Hb ad σ H E _ fun n1 v H1 d k j a r => by
    have E1 := E.keep k j
    obtain ⟨p1, p2, p3, p4, us, p5, p6⟩ := E1.own i xs hi
    refine ⟨.ref (ad i), p1, r M Hb ad σ H1 E1 _ fun n2 w H2 y k2 j2 a2 ⟨kk, jj, ey, ej, kd⟩ => ?_⟩
    subst ey
    have E2 := E1.keep k2 j2
    obtain ⟨q1, q2, q3, q4, ws, q5, q6⟩ := E2.own i xs hi
    exact ⟨ad i, ws, kk, jj, rfl, at_int a2, q5, by rw [q6.len]; exact ej, R.nx n2 ad σ _ _ (E2.mut hi (q6.set jj (E1.at_ k2 a))) kd⟩⟩
/-- targets = e: a datum taken apart -/
theorem x_asg {D : DE} {is : List Nat} (h : Ev S g e ρ n fun n1 d => ∃ ρ', Gd S g tg ρ d is ρ' ∧ D.nx n1 ρ') (hs : ∀ env, swapsWithSole [tg] e pos.line env = pure false := by intro _; rfl) (hw : ∀ env, env.scope = S.sc → swappedStores [tg] e env = pure none := by intro _ _; rfl)
    (h1 : ∀ env, (assignEach [tg] env).map (·.2) = [assign tg env] := by intro _; rfl) : Ex1 S g (.Assign [tg] e pos) ρ n D := fun M Hb ad σ H D' E R =>
  ⟨tAsg (wE S e) (wG S tg), fun X c => ps_asg (wE_ok c) (wG_ok c) (hs _) (hw _ c.sc) (h1 _), h M Hb ad σ H E _ fun n1 v H1 d k j a ⟨ρ', hg, kd⟩ =>
    hg M Hb ad n1 σ H1 v (E.keep k j) a _ fun σ' E' _ _ _ => R.nx n1 ad σ' H1 ρ' E' kd⟩
end
end Kb
/-! loops; several names at once; the call of a def; its promise -/
namespace Kb
open PySem PySem.Spec PyProof.Rows L2
section
variable {S : Sg} {g : Wd} {e a b c tg iter elt : Expr} {es rest ifs : List Expr} {ρ ρ1 ρ2 : En} {n : Nat} {pos p : Pos} {x : Str} {d : Dat}
/-! ### a new base: a loop's -/
def OwnA (ad : Nat → Addr) (ρ : En) (a : Addr) : Prop := ∃ (i : Nat) (l : List Dat), ρ[i]? = some (.own l) ∧ ad i = a
open Classical in
noncomputable def hb1 (ad : Nat → Addr) (ρ : En) (H : Hp) : Hp := fun a => if OwnA ad ρ a then none else H a
theorem hb1_own {ad : Nat → Addr} {H : Hp} {a : Addr} (h : OwnA ad ρ a) : hb1 ad ρ H a = none := if_pos h
theorem hb1_not {ad : Nat → Addr} {H : Hp} {a : Addr} (h : ¬ OwnA ad ρ a) : hb1 ad ρ H a = H a := if_neg h
theorem hb1_some {ad : Nat → Addr} {H : Hp} {a : Addr} {o : HO} (h : hb1 ad ρ H a = some o) : ¬ OwnA ad ρ a ∧ H a = some o := by
  by_cases z : OwnA ad ρ a
  · rw [hb1_own z] at h
    cases h
  · rw [hb1_not z] at h
    exact ⟨z, h⟩
section
variable {M : Mu} {Hb H H2 : Hp} {ad ad2 : Nat → Addr} {σ σ2 : L2.St} {n2 : Nat}
theorem EnvOk.rebase (E : EnvOk g M Hb ad n σ H ρ) : EnvOk g M (hb1 ad ρ H) ad n σ H ρ where
  kp := fun a o _ h => (hb1_some h).2
  j := E.j
  wm := E.wm
  al := E.al
  len := E.len
  dat := E.dat
  own := fun i ds e => by
    obtain ⟨h1, h2, h3, h4, h5⟩ := E.own i ds e
    exact ⟨h1, hb1_own ⟨i, ds, e, rfl⟩, h3, h4, h5⟩
  raw := E.raw
  inj := E.inj
theorem EnvOk.kw1 (E : EnvOk g M Hb ad n σ H ρ) : Kw g Hb (hb1 ad ρ H) := fun a o w h => by
  rw [hb1_not fun ⟨i, l, e, q⟩ => by
    have := (E.own i l e).2.1
    rw [q, h] at this
    cases this]
  exact E.kp a o w h
theorem EnvOk.unbase (E : EnvOk g M Hb ad n σ H ρ) (E2 : EnvOk g M (hb1 ad ρ H) ad2 n2 σ2 H2 ρ2) : EnvOk g M Hb ad2 n2 σ2 H2 ρ2 where
  kp := E.kw1.trans E2.kp
  j := E2.j
  wm := E2.wm
  al := E2.al
  len := E2.len
  dat := E2.dat
  own := fun i ds e => by
    obtain ⟨h1, h2, h3, h4, h5⟩ := E2.own i ds e
    refine ⟨h1, ?_, h3, h4, h5⟩
    cases z : Hb (ad2 i) with
    | none => rfl
    | some o =>
      rw [E.kw1 _ o (fun w => h4 (g.wf _ w)) z] at h2
      cases h2
  raw := E2.raw
  inj := E2.inj
end
theorem x_for {body : List Stmt} {D : DE} (h : EvI S g tg iter ρ n fun n1 xs => ∃ I : Nat → Nat → En → Prop, I 0 n1 ρ ∧ (∀ (i : Nat) x n2 ρ2, xs[i]? = some x → I i n2 ρ2 → ∃ is ρ3, Gd S g tg ρ2 x is ρ3 ∧ Ex S g body ρ3 n2 { nx := I (i + 1), ct := I (i + 1), bk := D.nx, rt := D.rt }) ∧ (∀ n2 ρ2, I xs.length n2 ρ2 → D.nx n2 ρ2))
    (hs : ∀ env x, foldedSetIterable iter env x = pure x := by intro _ _; rfl) : Ex1 S g (.For tg iter body [] pos) ρ n D := fun M Hb ad σ H D' E R =>
  ⟨tFor (wI S tg iter) (wG S tg) (wSs S body), fun X c => ps_for (by rw [c.xe]; exact PassesOwn.never) c.calm (wI_ok c) (wG_ok c) (wSs_ok c) (hs _), h M Hb ad σ H E _ fun n1 J H1 xs k1 j1 y1 ⟨I, h0, hb, hd⟩ => by
    have E1 := E.keep k1 j1
    have B1 := E1.rebase
    refine ⟨fun i m σ2 H2 => m = xs.length - i ∧ i ≤ xs.length ∧ ∃ n2 ad2 ρ2, EnvOk g M (hb1 ad ρ H1) ad2 n2 σ2 H2 ρ2 ∧ I i n2 ρ2, ⟨xs.length, rfl, Nat.zero_le _, n1, ad, ρ, B1, h0⟩, ?_⟩
    rintro i m σ2 H2 ⟨rfl, hi, n2, ad2, ρ2, E2, hI⟩
    have kk : ∀ a o, ¬ Mx M ad ρ a → H1 a = some o → H2 a = some o := fun a o na e => E2.kp a o (fun w => na (E1.wx a w)) (by rw [hb1_not fun ⟨i, l, q, z⟩ => na (.inr ⟨i, l, q, z⟩)]; exact e)
    have mm : ∀ a, Mx M ad2 ρ2 a → Mx M ad ρ a ∨ H1 a = none := fun a z => by
      rcases z with z | ⟨i, l, e, q⟩
      · exact .inl (.inl z)
      · have hn := (E2.own i l e).2.1
        rw [q] at hn
        by_cases ow : OwnA ad ρ a
        · exact .inl (.inr ow)
        · rw [hb1_not ow] at hn
          exact .inr hn
    have yy := y1 H2 (Mx M ad2 ρ2) kk (fun a z => E2.mal z) mm
    by_cases hlt : i < xs.length
    · refine .inr ?_
      have ex : xs[i]? = some xs[i] := List.getElem?_eq_getElem hlt
      obtain ⟨go, yi⟩ := yy.1 i _ ex
      obtain ⟨is, ρ3, hg, hx⟩ := hb i _ n2 ρ2 ex hI
      refine ⟨go, fun σ' H' => ∃ n2 ad2 ρ2, EnvOk g M (hb1 ad ρ H1) ad2 n2 σ' H' ρ2 ∧ I (i + 1) n2 ρ2, fun σ' H' z => ⟨xs.length - (i + 1), by omega, rfl, hlt, z⟩, fun v H3 y => ?_⟩
      obtain ⟨s3, a3⟩ := yi v H3 y
      refine hg M _ ad2 n2 σ2 H3 v (E2.same s3) a3 _ fun σ3 E3 _ _ _ => hx M _ ad2 σ3 H3 _ E3 ?_
      exact ⟨fun n ad σ H ρ E z => ⟨n, ad, ρ, E, z⟩, fun n v H d k j a z => R.rt n v H d (E1.kw1.trans k) j a z, fun n ad' σ H ρ' E z => R.nx n ad' σ H ρ' (E1.unbase E) z, fun n ad σ H ρ E z => ⟨n, ad, ρ, E, z⟩⟩
    · have e : i = xs.length := by omega
      subst e
      exact .inl ⟨yy.2, R.nx n2 ad2 σ2 H2 ρ2 (E1.unbase E2) (hd _ _ hI)⟩⟩
/-- the invariant W with its measure -/
theorem x_while {body : List Stmt} {D : DE} (W : Nat → Nat → En → Prop) (m0 : Nat) (h0 : W m0 n ρ)
    (hb : ∀ m n1 ρ1, W m n1 ρ1 → EvT S g c ρ1 n1 fun n2 t => (t = true → Ex S g body ρ1 n2 { nx := fun n3 ρ3 => ∃ m', m' < m ∧ W m' n3 ρ3, ct := fun n3 ρ3 => ∃ m', m' < m ∧ W m' n3 ρ3, bk := D.nx, rt := D.rt }) ∧ (t = false → D.nx n2 ρ1)) :
    Ex1 S g (.While c body [] pos) ρ n D := fun M Hb ad σ H D' E R =>
  ⟨tWhile (wT S c) (wSs S body), fun X cl => ps_while (by rw [cl.xe]; exact PassesOwn.never) (wT_ok cl) (wSs_ok cl),
    fun m σ2 H2 => ∃ n2 ad2 ρ2, EnvOk g M Hb ad2 n2 σ2 H2 ρ2 ∧ W m n2 ρ2, ⟨m0, n, ad, ρ, E, h0⟩, fun m σ2 H2 ⟨n2, ad2, ρ2, E2, w2⟩ => hb m n2 ρ2 w2 M Hb ad2 σ2 H2 E2 _ fun n3 t H3 k3 j3 ⟨r1, r2⟩ => by
      cases t with
      | true =>
        refine iteT ⟨fun σ' H' => ∃ m', m' < m ∧ ∃ n2 ad2 ρ2, EnvOk g M Hb ad2 n2 σ' H' ρ2 ∧ W m' n2 ρ2, fun σ' H' ⟨m', hm, z⟩ => ⟨m', hm, z⟩, ?_⟩
        refine r1 rfl M Hb ad2 σ2 H3 _ (E2.keep k3 j3) ⟨fun n ad σ H ρ E ⟨m', hm, z⟩ => ⟨m', hm, n, ad, ρ, E, z⟩, R.rt, R.nx, fun n ad σ H ρ E ⟨m', hm, z⟩ => ⟨m', hm, n, ad, ρ, E, z⟩⟩
      | false => exact iteF (R.nx n3 ad2 σ2 H3 ρ2 (E2.keep k3 j3) (r2 rfl))⟩
theorem x_brk {D : DE} (h : D.bk n ρ) : Ex1 S g (.Break pos) ρ n D := fun M Hb ad σ H D' E R => ⟨tBreak, fun X c => ps_break, R.bk n ad σ H ρ E h⟩
/-! ### several names at once -/
inductive Rs where
  | dat (d : Dat) | new (l : List Dat)
def Rs.sl : Rs → Sl
  | .dat d => .dat d
  | .new l => .own l
def RL (M : Mu) (H : Hp) : List Rs → List V → List Addr → Prop
  | [], vs, ps => vs = [] ∧ ps = []
  | .dat d :: rs, vs, ps => ∃ v r, vs = v :: r ∧ At M H d v ∧ RL M H rs r ps
  | .new l :: rs, vs, ps => ∃ p us r ps', vs = .ref p :: r ∧ ps = p :: ps' ∧ H p = some (.lst us) ∧ Ats M H l us ∧ RL M H rs r ps'
theorem RL.mono {M M' : Mu} {H H' : Hp} (m : ∀ a, M' a → M a) (k : ∀ a o, ¬ M a → H a = some o → H' a = some o) : ∀ {rs : List Rs} {vs : List V} {ps : List Addr}, RL M H rs vs ps → (∀ p ∈ ps, ∀ o, H p = some o → H' p = some o) → RL M' H' rs vs ps
  | [], _, _, h, _ => h
  | .dat d :: rs, vs, ps, ⟨v, r, e, h1, h2⟩, q => ⟨v, r, e, h1.mono m k, RL.mono m k h2 q⟩
  | .new l :: rs, vs, ps, ⟨p, us, r, ps', e, e2, h1, h2, h3⟩, q => ⟨p, us, r, ps', e, e2, q p (by rw [e2]; exact List.mem_cons_self) _ h1, h2.mono m k, RL.mono m k h3 fun p' hp => q p' (by rw [e2]; exact List.mem_cons_of_mem _ hp)⟩
/-- the arguments, some of them new lists -/
def EvRA (S : Sg) (g : Wd) (es : List Expr) (ρ : En) (n : Nat) (K : Nat → List Rs → Prop) : Prop := ∀ M Hb ad σ H, EnvOk g M Hb ad n σ H ρ → ∀ Q : List V → Hp → Prop,
  (∀ n' vs H' rs ps, Kw g H H' → g.J n' H' → ps.Nodup → (∀ p ∈ ps, H p = none) → RL (fun a => Mx M ad ρ a ∨ a ∈ ps) H' rs vs ps → K n' rs → Q vs H') → wA S es σ H Q
theorem era_nil {K : Nat → List Rs → Prop} (k : K n []) : EvRA S g [] ρ n K := fun M Hb ad σ H E Q q => ⟨tNil, fun X c => pa_nil, q n [] H [] [] (Kw.refl H) E.j List.nodup_nil (fun _ h => by cases h) ⟨rfl, rfl⟩ k⟩
theorem era_dat {K : Nat → List Rs → Prop} (h : Ev S g e ρ n fun n1 d => EvRA S g es ρ n1 fun n2 rs => K n2 (.dat d :: rs)) (hs : ∀ env, starEach (e :: es) env = (false, eval e env) :: starEach es env := by intro _; rfl) : EvRA S g (e :: es) ρ n K := fun M Hb ad σ H E Q q =>
  ⟨tCons (wE S e) (wA S es), fun X c => pa_cons (wE_ok c) (wA_ok c) (hs _), h M Hb ad σ H E _ fun n1 v H1 d k1 j1 a1 r => r M Hb ad σ H1 (E.keep k1 j1) _ fun n2 vs H2 rs ps k2 j2 nd f2 a2 kk => by
    refine q n2 (v :: vs) H2 (.dat d :: rs) ps (k1.trans k2) j2 nd (fun p hp => E.fresh_back k1 j1 (f2 p hp)) ⟨v, vs, rfl, ?_, a2⟩ kk
    exact a1.shift (fun a o na e => k2 a o (fun w => na (E.wx a w)) e) fun a z => z.elim .inl fun z => .inr (f2 a z)⟩
theorem EnvOk.addM {M : Mu} {Hb H H1 : Hp} {ad : Nat → Addr} {σ : L2.St} {n1 : Nat} (E : EnvOk g M Hb ad n σ H ρ) (k : Kw g H H1) (j : g.J n1 H1) {p : Addr} (hp : H p = none) {o : HO} (h1 : H1 p = some o) : EnvOk g (fun a => M a ∨ a = p) Hb ad n1 σ H1 ρ := by
  have E1 := E.keep k j
  have sh : ∀ {d : List Dat} {v : List V}, Ats (Mx M ad ρ) H d v → Ats (Mx (fun a => M a ∨ a = p) ad ρ) H1 d v := fun {d v} h => h.shift (fun a o na e => k a o (fun w => na (E.wx a w)) e) fun a z => by
    rcases z with (z | z) | z
    · exact .inl (.inl z)
    · exact .inr (by rw [z]; exact hp)
    · exact .inl (.inr z)
  have sh1 : ∀ {d : Dat} {v : V}, At (Mx M ad ρ) H d v → At (Mx (fun a => M a ∨ a = p) ad ρ) H1 d v := fun {d v} h => h.shift (fun a o na e => k a o (fun w => na (E.wx a w)) e) fun a z => by
    rcases z with (z | z) | z
    · exact .inl (.inl z)
    · exact .inr (by rw [z]; exact hp)
    · exact .inl (.inr z)
  refine ⟨E1.kp, j, fun a w => .inl (E.wm a w), fun a z => z.elim (E1.al a) fun z => ⟨o, by rw [z]; exact h1⟩, E.len, fun i d e => ?_, fun i ds e => ?_, E.raw, E.inj⟩
  · obtain ⟨v, e1, e2⟩ := E.dat i d e
    exact ⟨v, e1, sh1 e2⟩
  · obtain ⟨e1, e2, e3, e4, vs, e5, e6⟩ := E.own i ds e
    refine ⟨e1, e2, fun z => z.elim e3 fun z => ?_, e4, vs, k _ _ (fun w => e3 (E.wm _ w)) e5, sh e6⟩
    rw [z, hp] at e5
    cases e5
theorem era_new {K : Nat → List Rs → Prop} (h : EvN S g e ρ n fun n1 ds => EvRA S g es ρ n1 fun n2 rs => K n2 (.new ds :: rs)) (hs : ∀ env, starEach (e :: es) env = (false, eval e env) :: starEach es env := by intro _; rfl) : EvRA S g (e :: es) ρ n K := fun M Hb ad σ H E Q q =>
  ⟨tCons (wE S e) (wA S es), fun X c => pa_cons (wE_ok c) (wA_ok c) (hs _), h M Hb ad σ H E _ fun n1 p us H1 ds f1 k1 j1 hp s1 r => r (fun a => M a ∨ a = p) Hb ad σ H1 (E.addM k1 j1 f1 hp) _ fun n2 vs H2 rs ps k2 j2 nd f2 a2 kk => by
    have np : p ∉ ps := fun z => by
      rw [f2 p z] at hp
      cases hp
    have nw : ¬ g.W p := E.wfresh f1
    have m2 : ∀ a, (Mx M ad ρ a ∨ a ∈ p :: ps) → (Mx (fun a => M a ∨ a = p) ad ρ a ∨ a ∈ ps) := fun a z => by
      rcases z with (z | z) | z
      · exact .inl (.inl (.inl z))
      · exact .inl (.inr z)
      · rcases List.mem_cons.mp z with z | z
        · exact .inl (.inl (.inr z))
        · exact .inr z
    refine q n2 (.ref p :: vs) H2 (.new ds :: rs) (p :: ps) (k1.trans k2) j2 (List.nodup_cons.mpr ⟨np, nd⟩) (fun p' hp' => ?_) ⟨p, us, vs, ps, rfl, rfl, k2 p _ nw hp, ?_, a2.mono m2 (fun _ _ _ z => z) fun _ _ _ z => z⟩ kk
    · rcases List.mem_cons.mp hp' with z | z
      · rw [z]; exact f1
      · exact E.fresh_back k1 j1 (f2 p' z)
    · exact s1.shift (fun a o na e => k2 a o (fun w => na (.inl (E.wx a w))) e) fun a z => by
        rcases z with z | z
        · exact .inl (.inl z)
        · rcases List.mem_cons.mp z with z | z
          · exact .inl (.inr z)
          · exact .inr (f2 a z)⟩
/-- one slot of several -/
theorem EnvOk.adopt {M : Mu} {Hb H : Hp} {ad : Nat → Addr} {σ : L2.St} {i : Nat} {p : Addr} {ps : List Addr} {ys : List Dat} {us : List V} (E : EnvOk g (fun a => M a ∨ a ∈ p :: ps) Hb ad n σ H ρ) (hi : i < ρ.length) (nm : ¬ M p) (np : p ∉ ps) (hb : Hb p = none) (nf : ¬ g.F p) (wm : ∀ a, g.W a → M a)
    (h : H p = some (.lst us)) (hs : Ats (Mx (fun a => M a ∨ a ∈ p :: ps) ad ρ) H ys us) : EnvOk g (fun a => M a ∨ a ∈ ps) Hb (adSet ad i p) n (σ.set i (some (.ref p))) H (ρ.set i (.own ys)) := by
  have mm : ∀ a, Mx (fun a => M a ∨ a ∈ ps) (adSet ad i p) (ρ.set i (.own ys)) a → Mx (fun a => M a ∨ a ∈ p :: ps) ad ρ a := fun a h => by
    rcases h with (h | h) | ⟨m, l, e, q⟩
    · exact .inl (.inl h)
    · exact .inl (.inr (List.mem_cons_of_mem _ h))
    · rcases getElem?_set' e with ⟨em, z⟩ | ⟨nm, z⟩
      · rw [em, adSet_same] at q
        exact .inl (.inr (by rw [q]; exact List.mem_cons_self))
      · rw [adSet_ne nm] at q
        exact .inr ⟨m, l, z, q⟩
  have pa : ∀ (m : Nat) ds, ρ[m]? = some (.own ds) → ad m ≠ p := fun m ds e q => (E.own m ds e).2.2.1 (.inr (by rw [q]; exact List.mem_cons_self))
  refine ⟨E.kp, E.j, fun a w => .inl (wm a w), fun a z => E.al a (z.elim .inl fun z => .inr (List.mem_cons_of_mem _ z)), by rw [List.length_set, List.length_set]; exact E.len, fun m x e => ?_, fun m ds e => ?_, fun m a e => ?_, fun m l ds es e1 e2 e3 => ?_⟩
  · rcases getElem?_set' e with ⟨em, z⟩ | ⟨nm, z⟩
    · cases z
    · obtain ⟨u, h1, h2⟩ := E.dat m x z
      exact ⟨u, by rw [List.getElem?_set_ne (Ne.symm nm)]; exact h1, h2.mono mm fun _ _ _ q => q⟩
  · rcases getElem?_set' e with ⟨em, z⟩ | ⟨nm', z⟩
    · cases z
      subst em
      rw [adSet_same]
      exact ⟨set_at _ (by rw [E.len]; exact hi), hb, fun z => z.elim nm np, nf, us, h, hs.mono mm fun _ _ _ q => q⟩
    · rw [adSet_ne nm']
      obtain ⟨h1, h2, h3, h4, vs, h5, h6⟩ := E.own m ds z
      exact ⟨by rw [List.getElem?_set_ne (Ne.symm nm')]; exact h1, h2, fun z => h3 (z.elim .inl fun z => .inr (List.mem_cons_of_mem _ z)), h4, vs, h5, h6.mono mm fun _ _ _ q => q⟩
  · rcases getElem?_set' e with ⟨em, z⟩ | ⟨nm, z⟩
    · cases z
    · rw [List.getElem?_set_ne (Ne.symm nm)]
      exact E.raw m a z
  · rcases getElem?_set' e1 with ⟨em, z⟩ | ⟨nm, z⟩
    · rcases getElem?_set' e2 with ⟨el, z2⟩ | ⟨nl, z2⟩
      · rw [em, el]
      · rw [em, adSet_same, adSet_ne nl] at e3
        exact absurd e3.symm (pa l _ z2)
    · rcases getElem?_set' e2 with ⟨el, z2⟩ | ⟨nl, z2⟩
      · rw [el, adSet_same, adSet_ne nm] at e3
        exact absurd e3 (pa m _ z)
      · rw [adSet_ne nm, adSet_ne nl] at e3
        exact E.inj m l ds es z z2 e3
def setV (σ : L2.St) : List Nat → List V → L2.St
  | i :: is, v :: vs => setV (σ.set i (some v)) is vs
  | _, _ => σ
def setR (ρ : En) : List Nat → List Rs → En
  | i :: is, r :: rs => setR (ρ.set i r.sl) is rs
  | _, _ => ρ
theorem EnvOk.setAll {M : Mu} {Hb H : Hp} (wm : ∀ a, g.W a → M a) : ∀ {is : List Nat} {rs : List Rs} {vs : List V} {ps : List Addr} {ad : Nat → Addr} {σ : L2.St} {ρ : En}, EnvOk g (fun a => M a ∨ a ∈ ps) Hb ad n σ H ρ → ps.Nodup → (∀ p ∈ ps, ¬ M p ∧ Hb p = none ∧ ¬ g.F p) →
    RL (Mx (fun a => M a ∨ a ∈ ps) ad ρ) H rs vs ps → is.length = rs.length → (∀ i ∈ is, i < ρ.length) → ∃ ad', EnvOk g M Hb ad' n (setV σ is vs) H (setR ρ is rs)
  | [], [], vs, ps, ad, σ, ρ, E, nd, hp, h, hl, hi => by
    obtain ⟨rfl, rfl⟩ := h
    exact ⟨ad, ⟨E.kp, E.j, wm, fun a z => E.al a (.inl z), E.len, fun i d e => by
      obtain ⟨v, h1, h2⟩ := E.dat i d e
      exact ⟨v, h1, h2.mono (fun a z => z.elim (fun z => .inl (.inl z)) .inr) fun _ _ _ z => z⟩, fun i ds e => by
      obtain ⟨h1, h2, h3, h4, vs, h5, h6⟩ := E.own i ds e
      exact ⟨h1, h2, fun z => h3 (.inl z), h4, vs, h5, h6.mono (fun a z => z.elim (fun z => .inl (.inl z)) .inr) fun _ _ _ z => z⟩, E.raw, E.inj⟩⟩
  | i :: is, .dat d :: rs, vs, ps, ad, σ, ρ, E, nd, hp, h, hl, hi => by
    obtain ⟨v, r, rfl, a1, h2⟩ := h
    refine EnvOk.setAll (is := is) (rs := rs) (vs := r) (ad := ad) (σ := σ.set i (some v)) (ρ := ρ.set i (.dat d)) wm (E.set (i := i) a1) nd hp (h2.mono (Mx.set_no (fun _ => by intro z; cases z)) (fun _ _ _ z => z) fun _ _ _ z => z) (by simpa using hl) fun k hk => ?_
    rw [List.length_set]
    exact hi k (List.mem_cons_of_mem _ hk)
  | i :: is, .new l :: rs, vs, ps, ad, σ, ρ, E, nd, hp, h, hl, hi => by
    obtain ⟨p, us, r, ps', rfl, rfl, h1, h2, h3⟩ := h
    obtain ⟨q1, q2, q3⟩ := hp p List.mem_cons_self
    obtain ⟨nd1, nd2⟩ := List.nodup_cons.mp nd
    have E' := E.adopt (hi i List.mem_cons_self) q1 nd1 q2 q3 wm h1 h2
    refine EnvOk.setAll (is := is) (rs := rs) (vs := r) (ad := adSet ad i p) (σ := σ.set i (some (.ref p))) (ρ := ρ.set i (.own l)) wm E' nd2 (fun p hp' => hp p (List.mem_cons_of_mem _ hp')) (h3.mono (fun a h => ?_) (fun _ _ _ z => z) fun _ _ _ z => z) (by simpa using hl) fun k hk => ?_
    · rcases h with (h | h) | ⟨m, l, e, q⟩
      · exact .inl (.inl h)
      · exact .inl (.inr (List.mem_cons_of_mem _ h))
      · rcases getElem?_set' e with ⟨em, z⟩ | ⟨nm, z⟩
        · rw [em, adSet_same] at q
          exact .inl (.inr (by rw [q]; exact List.mem_cons_self))
        · rw [adSet_ne nm] at q
          exact .inr ⟨m, l, z, q⟩
    · rw [List.length_set]
      exact hi k (List.mem_cons_of_mem _ hk)
  | [], _ :: _, _, _, _, _, _, _, _, _, _, hl, _ => by simp at hl
  | _ :: _, [], _, _, _, _, _, _, _, _, _, hl, _ => by simp at hl
theorem EnvOk.addMs {M : Mu} {Hb H H1 : Hp} {ad : Nat → Addr} {σ : L2.St} {n1 : Nat} {ps : List Addr} (E : EnvOk g M Hb ad n σ H ρ) (k : Kw g H H1) (j : g.J n1 H1) (hp : ∀ p ∈ ps, H p = none) (h1 : ∀ p ∈ ps, ∃ o, H1 p = some o) : EnvOk g (fun a => M a ∨ a ∈ ps) Hb ad n1 σ H1 ρ := by
  have E1 := E.keep k j
  have m : ∀ a, Mx (fun a => M a ∨ a ∈ ps) ad ρ a → Mx M ad ρ a ∨ H a = none := fun a z => by
    rcases z with (z | z) | z
    · exact .inl (.inl z)
    · exact .inr (hp a z)
    · exact .inl (.inr z)
  refine ⟨E1.kp, j, fun a w => .inl (E.wm a w), fun a z => z.elim (E1.al a) fun z => h1 a z, E.len, fun i d e => ?_, fun i ds e => ?_, E.raw, E.inj⟩
  · obtain ⟨v, e1, e2⟩ := E.dat i d e
    exact ⟨v, e1, e2.shift (fun a o na e => k a o (fun w => na (E.wx a w)) e) m⟩
  · obtain ⟨e1, e2, e3, e4, vs, e5, e6⟩ := E.own i ds e
    refine ⟨e1, e2, fun z => z.elim e3 fun z => ?_, e4, vs, k _ _ (fun w => e3 (E.wm _ w)) e5, e6.shift (fun a o na e => k a o (fun w => na (E.wx a w)) e) m⟩
    rw [hp _ z] at e5
    cases e5
theorem RL.there {M : Mu} {H : Hp} : ∀ {rs : List Rs} {vs : List V} {ps : List Addr}, RL M H rs vs ps → ∀ p ∈ ps, ∃ o, H p = some o
  | [], _, _, h, p, hp => by rw [h.2] at hp; cases hp
  | .dat d :: rs, vs, ps, ⟨v, r, e, h1, h2⟩, p, hp => RL.there h2 p hp
  | .new l :: rs, vs, ps, ⟨p', us, r, ps', e, e2, h1, h2, h3⟩, p, hp => by
    rw [e2] at hp
    rcases List.mem_cons.mp hp with z | z
    · exact ⟨_, by rw [z]; exact h1⟩
    · exact RL.there h3 p z
theorem RL.len {M : Mu} {H : Hp} : ∀ {rs : List Rs} {vs : List V} {ps : List Addr}, RL M H rs vs ps → vs.length = rs.length
  | [], _, _, h => by rw [h.1]; rfl
  | .dat d :: rs, vs, ps, ⟨v, r, e, h1, h2⟩ => by rw [e, List.length_cons, List.length_cons, RL.len h2]
  | .new l :: rs, vs, ps, ⟨p', us, r, ps', e, e2, h1, h2, h3⟩ => by rw [e, List.length_cons, List.length_cons, RL.len h3]
/-- behind the arguments: all slots set -/
theorem EnvOk.paired {M : Mu} {Hb H H1 : Hp} {ad : Nat → Addr} {σ : L2.St} {n1 : Nat} {is : List Nat} {rs : List Rs} {vs : List V} {ps : List Addr} (E : EnvOk g M Hb ad n σ H ρ) (k : Kw g H H1) (j : g.J n1 H1) (nd : ps.Nodup) (hp : ∀ p ∈ ps, H p = none) (h : RL (fun a => Mx M ad ρ a ∨ a ∈ ps) H1 rs vs ps)
    (hl : is.length = rs.length) (hi : ∀ i ∈ is, i < ρ.length) : ∃ ad', EnvOk g M Hb ad' n1 (setV σ is vs) H1 (setR ρ is rs) :=
  EnvOk.setAll E.wm (E.addMs k j hp h.there) nd (fun p z => ⟨fun m => E.mfresh (hp p z) (.inl m), E.bfresh (hp p z), E.ffresh (hp p z)⟩) (h.mono (fun a z => by
    rcases z with (z | z) | z
    · exact .inl (.inl z)
    · exact .inr z
    · exact .inl (.inr z)) (fun _ _ _ z => z) fun _ _ _ z => z) hl hi
def envOf (sc : Scope) : Env := { scope := sc, locals := 0, globals := 0, cells := [] }
theorem swapped_of {ts : List Expr} {v : Expr} {env : Env} {sc : Scope} (h : env.scope = sc) : swappedStores ts v env = swappedStores ts v (envOf sc) := by
  subst h
  rfl
/-- x, y = a, b with plain local names -/
theorem x_par2 {y : Str} {px py pt pt2 : Pos} {kt k2 : Nat} {D : DE} (nd : S.N.Nodup) (i j : Nat) (hx : S.N[i]? = some x ∧ S.sc.names.lookup x = some .local) (hy : S.N[j]? = some y ∧ S.sc.names.lookup y = some .local) (hij : i ≠ j) (hi : i < ρ.length ∧ j < ρ.length)
    (hw : swappedStores [.Tuple [.Name x px, .Name y py] kt pt] (.Tuple [a, b] k2 pt2) (envOf S.sc) = pure (some [x, y])) (h : EvRA S g [a, b] ρ n fun n1 rs => rs.length = 2 ∧ D.nx n1 (setR ρ [i, j] rs))
    (hs : ∀ env, swapsWithSole [.Tuple [.Name x px, .Name y py] kt pt] (.Tuple [a, b] k2 pt2) pos.line env = pure false := by intro _; rfl) : Ex1 S g (.Assign [.Tuple [.Name x px, .Name y py] kt pt] (.Tuple [a, b] k2 pt2) pos) ρ n D := fun M Hb ad σ H D' E R =>
  ⟨tPar i j (wA S [a, b]), fun X c => ps_par c.calm (by rw [c.N]; exact nd) (by rw [c.N]; exact hx.1) (by rw [c.N]; exact hy.1) hij (by rw [c.sc]; exact hx.2) (by rw [c.sc]; exact hy.2) (wA_ok c) (by rw [swapped_of c.sc]; exact hw) (hs _), h M Hb ad σ H E _ fun n1 vs H1 rs ps k j1 nd f a ⟨hl, kd⟩ => by
    have e := a.len
    rw [hl] at e
    match vs, e with
    | [v, w], _ =>
      obtain ⟨ad', E'⟩ := E.paired (is := [i, j]) k j1 nd f a (by rw [hl]; rfl) (fun m hm => by
        rcases List.mem_cons.mp hm with z | z
        · rw [z]; exact hi.1
        · rw [List.mem_singleton.mp z]; exact hi.2)
      exact ⟨v, w, rfl, R.nx n1 ad' _ H1 _ E' kd⟩⟩
theorem x_par3 {y z : Str} {px py pz pt pt2 : Pos} {kt k2 : Nat} {D : DE} (nd : S.N.Nodup) (i j l : Nat) (hx : S.N[i]? = some x ∧ S.sc.names.lookup x = some .local) (hy : S.N[j]? = some y ∧ S.sc.names.lookup y = some .local) (hz : S.N[l]? = some z ∧ S.sc.names.lookup z = some .local) (hij : i ≠ j ∧ i ≠ l ∧ j ≠ l) (hi : i < ρ.length ∧ j < ρ.length ∧ l < ρ.length)
    (hw : swappedStores [.Tuple [.Name x px, .Name y py, .Name z pz] kt pt] (.Tuple [a, b, c] k2 pt2) (envOf S.sc) = pure (some [x, y, z])) (h : EvRA S g [a, b, c] ρ n fun n1 rs => rs.length = 3 ∧ D.nx n1 (setR ρ [i, j, l] rs))
    (hs : ∀ env, swapsWithSole [.Tuple [.Name x px, .Name y py, .Name z pz] kt pt] (.Tuple [a, b, c] k2 pt2) pos.line env = pure false := by intro _; rfl) : Ex1 S g (.Assign [.Tuple [.Name x px, .Name y py, .Name z pz] kt pt] (.Tuple [a, b, c] k2 pt2) pos) ρ n D := fun M Hb ad σ H D' E R =>
  ⟨tPar3 i j l (wA S [a, b, c]), fun X c => ps_par3 c.calm (by rw [c.N]; exact nd) (by rw [c.N]; exact hx.1) (by rw [c.N]; exact hy.1) (by rw [c.N]; exact hz.1) hij.1 hij.2.1 hij.2.2 (by rw [c.sc]; exact hx.2) (by rw [c.sc]; exact hy.2) (by rw [c.sc]; exact hz.2) (wA_ok c) (by rw [swapped_of c.sc]; exact hw) (hs _), h M Hb ad σ H E _ fun n1 vs H1 rs ps k j1 nd f a ⟨hl, kd⟩ => by
    have e := a.len
    rw [hl] at e
    match vs, e with
    | [v, w, u], _ =>
      obtain ⟨ad', E'⟩ := E.paired (is := [i, j, l]) k j1 nd f a (by rw [hl]; rfl) (fun m hm => by
        rcases List.mem_cons.mp hm with z | z
        · rw [z]; exact hi.1
        · rcases List.mem_cons.mp z with z | z
          · rw [z]; exact hi.2.1
          · rw [List.mem_singleton.mp z]; exact hi.2.2)
      exact ⟨v, w, u, rfl, R.nx n1 ad' _ H1 _ E' kd⟩⟩
/-- names to be stored -/
inductive Nms (S : Sg) : List Expr → List Nat → Prop
  | nil : Nms S [] []
  | cons {x : Str} {p : Pos} {i : Nat} {es : List Expr} {is : List Nat} : stB S i x = true → Nms S es is → Nms S (.Name x p :: es) (i :: is)
def gNms : List Nat → TGs
  | [] => gNil
  | i :: is => gCons (gName i) (gNms is)
theorem pgs_nms {X : Cx} (c : Cl S X) (nd : S.N.Nodup) : ∀ {es : List Expr} {is : List Nat}, Nms S es is → PGs X es (gNms is)
  | _, _, .nil => pgs_nil
  | _, _, .cons h r => pgs_cons (pg_nm c nd h) (pgs_nms c nd r)
theorem gNms_run {σ : L2.St} {H : Hp} {Q : L2.St → Hp → Prop} : ∀ {is : List Nat} {vs : List V} {σ : L2.St}, vs.length = is.length → Q (setV σ is vs) H → gNms is vs σ H Q
  | [], [], _, _, h => ⟨rfl, h⟩
  | i :: is, v :: vs, σ, e, h => ⟨v, vs, rfl, gNms_run (is := is) (vs := vs) (σ := σ.set i (some v)) (by simpa using e) h⟩
  | [], _ :: _, _, e, _ => by simp at e
  | _ :: _, [], _, e, _ => by simp at e
/-- x, y, .. = a, b, .. through a tuple -/
theorem x_pack {ts : List Expr} {pt pt2 : Pos} {kt k2 : Nat} {D : DE} (nd : S.N.Nodup) (is : List Nat) (hn : Nms S ts is) (hi : ∀ i ∈ is, i < ρ.length) (hl : is.length ≤ 1000) (h : EvRA S g es ρ n fun n1 rs => is.length = rs.length ∧ D.nx n1 (setR ρ is rs))
    (hw : swappedStores [.Tuple ts kt pt] (.Tuple es k2 pt2) (envOf S.sc) = pure none) (hs : ∀ env, swapsWithSole [.Tuple ts kt pt] (.Tuple es k2 pt2) pos.line env = pure false := by intro _; rfl) (h1 : ∀ env, (assignEach [.Tuple ts kt pt] env).map (·.2) = [assign (.Tuple ts kt pt) env] := by intro _; rfl)
    (hlt : ∀ env, (assignEach ts env).length = is.length := by intro _; rfl) (hst : ∀ env, (assignEach ts env).findIdx? (·.1) = none := by intro _; rfl) : Ex1 S g (.Assign [.Tuple ts kt pt] (.Tuple es k2 pt2) pos) ρ n D := fun M Hb ad σ H D' E R =>
  ⟨tAsg (tTup (wA S es)) (gTup S.K is.length (gNms is)), fun X c => ps_asg (pe_tup (wA_ok c)) (by rw [← c.K]; exact pg_tup c.calm (pgs_nms c nd hn) (hlt _) (hst _)) (hs _) (by rw [swapped_of c.sc]; exact hw) (h1 _), h M Hb ad σ H E _ fun n1 vs H1 rs ps k j1 ndp f a ⟨hlr, kd⟩ => by
    have e := a.len
    refine ⟨by rw [e, ← hlr]; exact Nat.le_of_lt (small1000 hl), fun T hT => ⟨T, vs, rfl, SqT.of upd_same, by rw [e, hlr], gNms_run (σ := σ) (by rw [e, hlr]) ?_⟩⟩
    have s := same_new (o := .tup vs) hT
    have a2 : RL (fun a => Mx M ad ρ a ∨ a ∈ ps) (upd H1 T (.tup vs)) rs vs ps := a.mono (fun _ z => z) (fun a o _ q => s a o q) fun p _ o q => s p o q
    obtain ⟨ad', E'⟩ := E.paired (is := is) (k.trans (Kw.of s)) (g.js _ _ _ j1 s) ndp f a2 hlr hi
    exact R.nx n1 ad' _ _ _ E' kd⟩
end
end Kb
/-! the call of a def, its promise; built-ins by name -/
namespace Kb
open PySem PySem.Spec PyProof.Rows L2
structure Gc where
  P : Program
  w : World
  K : PySem.W.Frag
  mg : Str → Option Value
  base : Heap
def Gc.sg (G : Gc) (A : Around) (N : List Str) (sc : Scope) : Sg := ⟨G.P, G.w, G.K, G.mg, G.base, A, N, sc, fun _ => true⟩
def Sg.gc (S : Sg) : Gc := ⟨S.P, S.w, S.K, S.mg, S.base⟩
/-- the module's name x is a def that keeps the promise sp -/
def HasF (G : Gc) (x : Str) (k : Nat) (np : Nat) (sp : Sp) : Prop := ∃ f fd ps, G.mg x = some (.ref f) ∧ PySem.W.keepIn G.K (.ref f) = true ∧ Binds G.K fd ps [] ∧ ps.length = np ∧ FnOk G.P G.w G.K G.mg G.base CX0 k f fd ps sp
theorem HasF.imp {G : Gc} {x : Str} {k np : Nat} {sp sp' : Sp} (h : HasF G x k np sp) (i : ∀ vs H Q E, sp' vs H Q E → sp vs H Q E) : HasF G x k np sp' := by
  obtain ⟨f, fd, ps, h1, h2, h3, h4, h5⟩ := h
  exact ⟨f, fd, ps, h1, h2, h3, h4, h5.imp i⟩
/-- a def that changes nothing: R says what it gives -/
def PureSp (np : Nat) (R : List Dat → Dat → Prop) : Sp := fun vs H Q _ => ∃ (M : Mu) (ds : List Dat) (d : Dat), (∀ a, M a → ∃ o, H a = some o) ∧ ds.length = np ∧ Ats M H ds vs ∧ R ds d ∧ ∀ v H', Same H H' → At M H' d v → Q v H'
/-- the pen at p, its cells at c -/
def PenOk (p c : Addr) (k : Nat) (H : Hp) : Prop := p ≠ c ∧ ∃ (at_ : Nat) (val : Int) (cells : List Int), H p = some (.lst [.ref c, .int at_, .int val]) ∧ H c = some (.lst (cells.map V.int)) ∧ at_ ≤ k ∧ cells.length ≤ 12
theorem PenOk.le {p c : Addr} {k k' : Nat} {H : Hp} (h : PenOk p c k H) (l : k ≤ k') : PenOk p c k' H := by
  obtain ⟨h1, a, v, cs, h2, h3, h4, h5⟩ := h
  exact ⟨h1, a, v, cs, h2, h3, Nat.le_trans h4 l, h5⟩
def penW (p c : Addr) : Wd where
  W := fun a => a = p
  F := fun a => a = p ∨ a = c
  J := PenOk p c
  wf := fun a h => .inl h
  js := fun n H H' ⟨h1, a, v, cs, h2, h3, h4, h5⟩ s => ⟨h1, a, v, cs, s _ _ h2, s _ _ h3, h4, h5⟩
  jm := fun n H l o ⟨h1, a, v, cs, h2, h3, h4, h5⟩ nf => ⟨h1, a, v, cs, by rw [upd_ne fun z => nf (.inl z.symm)]; exact h2, by rw [upd_ne fun z => nf (.inr z.symm)]; exact h3, h4, h5⟩
  ja := fun n H a ⟨h1, at_, v, cs, h2, h3, h4, h5⟩ h => by
    rcases h with h | h
    · exact ⟨_, by rw [h]; exact h2⟩
    · exact ⟨_, by rw [h]; exact h3⟩
/-- a def that draws by the pen: cst its cost -/
def PenSp (np cst : Nat) (Pre : List Dat → Prop) (R : List Dat → Dat → Prop) : Sp := fun vs H Q _ => ∃ (M : Mu) (p c : Addr) (k : Nat) (ds : List Dat) (vs' : List V), vs = .ref p :: vs' ∧ (∀ a, M a → ∃ o, H a = some o) ∧ M p ∧ ds.length + 1 = np ∧ Ats M H ds vs' ∧ PenOk p c k H ∧ k + cst ≤ 100000 ∧ Pre ds ∧
  ∀ v H' d, Kw (penW p c) H H' → PenOk p c (k + cst) H' → R ds d → At M H' d v → Q v H'
section
variable {S : Sg} {g : Wd} {e a b c : Expr} {es : List Expr} {ρ : En} {n : Nat} {pos p q : Pos} {x f : Str} {d : Dat}
theorem ev_call {k np : Nat} {R : List Dat → Dat → Prop} {K : Nat → Dat → Prop} (F : HasF S.gc f k np (PureSp np R)) (hr : Room k S.A) (hg : glB S.sc f = true) (h : EvA S g (e :: es) ρ n fun n1 ds => ds.length = np ∧ ∃ d, R ds d ∧ K n1 d)
    (he : ∀ env, starEach (e :: es) env = (false, eval e env) :: starEach es env := by intro _; rfl) (hpl : ∀ env, (backTo pos (starEach es env)).any (·.1) = false := by intro _; rfl) : Ev S g (.Call (.Name f p) (e :: es) [] pos) ρ n K := fun M Hb ad σ H E Q q => by
  obtain ⟨fa, fd, ps, h1, h2, h3, h4, h5⟩ := F
  refine ⟨tCall (PureSp np R) [] E0 (wA S (e :: es)), fun X c => ?_, ?_⟩
  · have F' : FnOk X.prog X.w X.K X.mg X.base CX0 k fa fd ps (PureSp np R) := by rw [c.P, c.w, c.K, c.mg, c.base]; exact h5
    exact pe_call F' (by rw [c.A]; exact hr) (gl_of c hg) (by rw [c.mg]; exact h1) (by rw [c.K]; exact h2) (by rw [c.K]; exact h3) .nil pass0 (wA_ok c) (glB_ok hg).2 (he _) (hpl _)
  · refine h M Hb ad σ H E _ fun n1 vs H1 ds k1 j1 a1 ⟨hl, d, hR, kd⟩ => ?_
    rw [List.append_nil]
    exact ⟨Mx M ad ρ, ds, d, fun a z => (E.keep k1 j1).mal z, hl, a1, hR, fun v H' s av => q n1 v H' d (k1.trans (Kw.of s)) (g.js _ _ _ j1 s) av kd⟩
theorem ed_call {k np : Nat} {R : List Dat → Dat → Prop} {ds : List Dat} (F : HasF S.gc f k np (PureSp np R)) (hr : Room k S.A) (hg : glB S.sc f = true) (h : EdA S g (e :: es) ρ ds) (hR : R ds d) (hl : ds.length = np := by rfl)
    (he : ∀ env, starEach (e :: es) env = (false, eval e env) :: starEach es env := by intro _; rfl) (hpl : ∀ env, (backTo pos (starEach es env)).any (·.1) = false := by intro _; rfl) : Ed S g (.Call (.Name f p) (e :: es) [] pos) ρ d := fun n =>
  ev_call F hr hg ((h n).imp fun _ _ z => ⟨by rw [z.2]; exact hl, d, by rw [z.2]; exact hR, z.1, rfl⟩) he hpl
/-- without an argument -/
theorem ed_call0 {k : Nat} {R : List Dat → Dat → Prop} (F : HasF S.gc f k 0 (PureSp 0 R)) (hr : Room k S.A) (hg : glB S.sc f = true) (hR : R [] d) : Ed S g (.Call (.Name f p) [] [] pos) ρ d := fun n M Hb ad σ H E Q q => by
  obtain ⟨fa, fd, ps, h1, h2, h3, h4, h5⟩ := F
  refine ⟨tCall (PureSp 0 R) [] E0 tNil, fun X c => ?_, ?_⟩
  · have F' : FnOk X.prog X.w X.K X.mg X.base CX0 k fa fd ps (PureSp 0 R) := by rw [c.P, c.w, c.K, c.mg, c.base]; exact h5
    exact pe_call0 F' (by rw [c.A]; exact hr) (gl_of c hg) (by rw [c.mg]; exact h1) (by rw [c.K]; exact h2) (by rw [c.K]; exact h3) .nil pass0 (glB_ok hg).2
  · exact ⟨Mx M ad ρ, [], d, fun a z => E.mal z, rfl, Ats.nil, hR, fun v H' s av => q n v H' d (Kw.of s) (g.js _ _ _ E.j s) av ⟨rfl, rfl⟩⟩
/-- a def that draws -/
theorem ev_pcall {pa ca : Addr} {k np cst i : Nat} {Pre : List Dat → Prop} {R : List Dat → Dat → Prop} {K : Nat → Dat → Prop} (F : HasF S.gc f k np (PenSp np cst Pre R)) (hr : Room k S.A) (hg : glB S.sc f = true) (hn : nmB S.N S.sc i x = true) (hi : ρ[i]? = some (.raw pa))
    (h : EvA S (penW pa ca) es ρ n fun n1 ds => ds.length + 1 = np ∧ Pre ds ∧ n1 + cst ≤ 100000 ∧ ∀ d, R ds d → K (n1 + cst) d)
    (he : ∀ env, starEach (.Name x q :: es) env = (false, eval (.Name x q) env) :: starEach es env := by intro _; rfl) (hpl : ∀ env, (backTo pos (starEach es env)).any (·.1) = false := by intro _; rfl) : Ev S (penW pa ca) (.Call (.Name f p) (.Name x q :: es) [] pos) ρ n K := fun M Hb ad σ H E Q q => by
  obtain ⟨fa, fd, ps, h1, h2, h3, h4, h5⟩ := F
  refine ⟨tCall (PenSp np cst Pre R) [] E0 (tCons (tVar i) (wA S es)), fun X c => ?_, ?_⟩
  · have F' : FnOk X.prog X.w X.K X.mg X.base CX0 k fa fd ps (PenSp np cst Pre R) := by rw [c.P, c.w, c.K, c.mg, c.base]; exact h5
    exact pe_call F' (by rw [c.A]; exact hr) (gl_of c hg) (by rw [c.mg]; exact h1) (by rw [c.K]; exact h2) (by rw [c.K]; exact h3) .nil pass0 (pa_cons (pe_nm c hn) (wA_ok c) (he _)) (glB_ok hg).2 (he _) (hpl _)
  · refine ⟨.ref pa, E.raw i pa hi, h M Hb ad σ H E _ fun n1 vs H1 ds k1 j1 a1 ⟨hl, hp, hc, kd⟩ => ?_⟩
    show PenSp np cst Pre R ((V.ref pa :: vs) ++ []) H1 Q E0
    rw [List.append_nil]
    exact ⟨Mx M ad ρ, pa, ca, n1, ds, vs, rfl, fun a z => (E.keep k1 j1).mal z, .inl (E.wm pa rfl), hl, a1, j1, hc, hp, fun v H' d s po hR av => q _ v H' d (k1.trans s) po av (kd d hR)⟩
/-! ### a def keeps its promise -/
/-- the slots at the start -/
def startE (N : List Str) (ds : List Sl) : En := ds ++ List.replicate (N.length - ds.length) .no
theorem env_start {g : Wd} {M : Mu} {H : Hp} {N : List Str} {ds : List Dat} {vs : List V} {k : Nat} (pre : List (Addr)) (al : ∀ a, M a → ∃ o, H a = some o) (hs : Ats M H ds vs) (j : g.J k H) (wm : ∀ a, g.W a → M a) (hl : pre.length + ds.length ≤ N.length) (ad : Nat → Addr) :
    EnvOk g M H ad k (L2.start N (pre.map V.ref ++ vs)) H (startE N (pre.map Sl.raw ++ ds.map Sl.dat)) := by
  have lv := hs.len
  have noown : ∀ (i : Nat) l, (startE N (pre.map Sl.raw ++ ds.map Sl.dat))[i]? ≠ some (.own l) := fun i l e => by
    unfold startE at e
    have m := List.mem_of_getElem? e
    simp at m
  refine ⟨Kw.refl H, j, wm, al, ?_, fun i d e => ?_, fun i l e => absurd e (noown i l), fun i b e => ?_, fun i k l es e1 => absurd e1 (noown i l)⟩
  · unfold L2.start startE
    simp only [List.length_append, List.length_map, List.length_replicate]
    omega
  · unfold startE at e
    have hi : i < (pre.map Sl.raw ++ ds.map Sl.dat).length := by
      by_cases z : i < (pre.map Sl.raw ++ ds.map Sl.dat).length
      · exact z
      · rw [List.getElem?_append_right (by omega), List.getElem?_replicate] at e
        split at e <;> cases e
    rw [List.getElem?_append_left hi] at e
    have hge : pre.length ≤ i := by
      by_cases z : i < pre.length
      · rw [List.getElem?_append_left (by simpa using z), List.getElem?_map] at e
        cases q : pre[i]? with
        | none => rw [q] at e; cases e
        | some b => rw [q] at e; cases e
      · omega
    rw [List.getElem?_append_right (by simpa using hge), List.length_map, List.getElem?_map] at e
    cases q : ds[i - pre.length]? with
    | none => rw [q] at e; cases e
    | some d' =>
      rw [q] at e
      cases e
      obtain ⟨v, h1, h2⟩ := hs.get q
      refine ⟨v, ?_, h2.mono (fun a z => z.elim id fun ⟨i, l, e, _⟩ => absurd e (noown i l)) fun _ _ _ z => z⟩
      unfold L2.start
      rw [List.getElem?_append_left (by simp only [List.length_map, List.length_append]; simp only [List.length_append, List.length_map] at hi; omega), List.getElem?_map, List.getElem?_append_right (by simpa using hge), List.length_map, h1]
      rfl
  · unfold startE at e
    have hi : i < pre.length := by
      by_cases z : i < pre.length
      · exact z
      · have m := e
        by_cases z2 : i < (pre.map Sl.raw ++ ds.map Sl.dat).length
        · rw [List.getElem?_append_left z2, List.getElem?_append_right (by simp only [List.length_map]; omega), List.getElem?_map] at m
          cases q : ds[i - (pre.map Sl.raw).length]? with
          | none => rw [q] at m; cases m
          | some b => rw [q] at m; cases m
        · rw [List.getElem?_append_right (by omega), List.getElem?_replicate] at m
          split at m <;> cases m
    rw [List.getElem?_append_left (by simp only [List.length_append, List.length_map]; omega), List.getElem?_append_left (by simpa using hi), List.getElem?_map] at e
    cases q : pre[i]? with
    | none => rw [q] at e; cases e
    | some b' =>
      rw [q] at e
      cases e
      unfold L2.start
      rw [List.getElem?_append_left (by simp only [List.length_map, List.length_append]; omega), List.getElem?_map, List.getElem?_append_left (by simpa using hi), List.getElem?_map, q]
      rfl
theorem cl_def {G : Gc} {N : List Str} {qual : Str} {scope : Scope} {f : Addr} {cd : Value} {A : Around} {outer : List Env} {s : Shared} {H : Hp} {E : XK} :
    Cl (G.sg (A.deeper (envOfC qual scope s.heap.objs.size f cd)) N scope) (cxOf CX0 G.P G.w G.K G.mg G.base N qual scope f cd A outer s H E).nox := ⟨rfl, rfl, rfl, rfl, rfl, rfl, rfl, rfl, rfl, rfl, rfl⟩
theorem pure_ok {G : Gc} {qual : Str} {params : Arguments} {body : List Stmt} {scope : Scope} {fa : Addr} {fd : FuncData} {N ps : List Str} {k : Nat} {R : List Dat → Dat → Prop} (F : FunD G.K x qual params body scope [] [] fa fd) (Sc : FnScope N ps scope)
    (h : ∀ A, Room k A → ∀ ds d, ds.length = ps.length → R ds d → Ex (G.sg A N scope) wd0 body (startE N (ds.map Sl.dat)) 0 { nx := fun _ _ => d = .non, rt := fun _ d' => d' = d }) :
    FnOk G.P G.w G.K G.mg G.base CX0 (k + 1) fa fd ps (PureSp ps.length R) := by
  have hpl : ps.length ≤ N.length := by have := congrArg List.length Sc.pre; rw [List.length_take] at this; omega
  refine F.ok Sc (fun vs H Q E ⟨M, ds, d, _, hl, hs, _⟩ => by rw [hs.len]; exact hl) fun cdv A outer s H vs Q E hr ⟨M, ds, d, al, hl, hs, hR, q⟩ => ?_
  refine ⟨wSs (G.sg (A.deeper (envOfC qual scope s.heap.objs.size fa cdv)) N scope) body, (wSs_ok cl_def).nox, ?_⟩
  refine h _ hr ds d hl hR M H (fun _ => 0) _ H _ (env_start (g := wd0) (k := 0) [] al hs trivial (fun _ z => z.elim) (by simpa [hl] using hpl) _) ?_
  exact ⟨fun n ad σ H' ρ E' z => q _ _ (Kw.same E'.kp) (by rw [z]; exact At.non), fun n v H' d' kk _ a z => q v H' (Kw.same kk) (by rw [← z]; exact a), fun _ _ _ _ _ _ z => z.elim, fun _ _ _ _ _ _ z => z.elim⟩
theorem pen_ok {G : Gc} {qual : Str} {params : Arguments} {body : List Stmt} {scope : Scope} {fa : Addr} {fd : FuncData} {N ps : List Str} {k cst : Nat} {Pre : List Dat → Prop} {R : List Dat → Dat → Prop} (F : FunD G.K x qual params body scope [] [] fa fd) (Sc : FnScope N ps scope)
    (h : ∀ A, Room k A → ∀ p c n ds, ds.length + 1 = ps.length → Pre ds → n + cst ≤ 100000 → Ex (G.sg A N scope) (penW p c) body (startE N (.raw p :: ds.map Sl.dat)) n { nx := fun _ _ => False, rt := fun n' d' => n' ≤ n + cst ∧ R ds d' }) :
    FnOk G.P G.w G.K G.mg G.base CX0 (k + 1) fa fd ps (PenSp ps.length cst Pre R) := by
  have hpl : ps.length ≤ N.length := by have := congrArg List.length Sc.pre; rw [List.length_take] at this; omega
  refine F.ok Sc (fun vs H Q E ⟨M, p, c, k, ds, vs', e, _, _, hl, hs, _⟩ => by rw [e, List.length_cons, hs.len]; exact hl) fun cdv A outer s H vs Q E hr ⟨M, p, c, n, ds, vs', e, al, mp, hl, hs, po, hc, hp, q⟩ => ?_
  subst e
  refine ⟨wSs (G.sg (A.deeper (envOfC qual scope s.heap.objs.size fa cdv)) N scope) body, (wSs_ok cl_def).nox, ?_⟩
  refine h _ hr p c n ds hl hp hc M H (fun _ => 0) _ H _ (env_start (g := penW p c) (k := n) [p] al hs po (fun a z => by rw [show a = p from z]; exact mp) (by simp only [List.length_cons, List.length_nil]; omega) _) ?_
  exact ⟨fun n ad σ H' ρ E' z => z.elim, fun n' v H' d' kk jj a z => q v H' d' kk (jj.le z.1) z.2 a, fun _ _ _ _ _ _ z => z.elim, fun _ _ _ _ _ _ z => z.elim⟩
/-! ### built-ins by name -/
def wC (S : Sg) (f : Value) : List V → Hp → VK → Prop := fun vs H Q => ∃ r, (∀ X, Cl S X → CallR X f r) ∧ r vs H Q
theorem wC_ok {X : Cx} {f : Value} (c : Cl S X) : CallR X f (wC S f) := fun pins s σ H xs us Q I r ⟨t, h, q⟩ => h X c pins s σ H xs us Q I r q
/-- f of ds gives a datum as K says -/
def Cd (S : Sg) (f : Value) (ds : List Dat) (K : Dat → Prop) : Prop := ∀ (M : Mu) (H : Hp), (∀ a, M a → ∃ o, H a = some o) → ∀ vs, Ats M H ds vs → ∀ Q : VK, (∀ u H' d, Same H H' → At M H' d u → K d → Q u H') → wC S f vs H Q
def CdN (S : Sg) (f : Value) (ds : List Dat) (K : List Dat → Prop) : Prop := ∀ (M : Mu) (H : Hp) vs, Ats M H ds vs → ∀ Q : VK, (∀ p us H' zs, H p = none → Same H H' → H' p = some (.lst us) → Ats (fun a => M a ∨ a = p) H' zs us → K zs → Q (.ref p) H') → wC S f vs H Q
theorem ev_blt {id : String} {K : Nat → Dat → Prop} (hg : glB S.sc x = true) (hm : S.mg x = none) (hv : bootBuiltins x = some (.builtin id)) (h : EvA S g (e :: es) ρ n fun n1 ds => Cd S (.builtin id) ds (K n1)) (hn : x ≠ "__name__" := by decide)
    (he : ∀ env, starEach (e :: es) env = (false, eval e env) :: starEach es env := by intro _; rfl) (hpl : ∀ env, (backTo pos (starEach es env)).any (·.1) = false := by intro _; rfl) : Ev S g (.Call (.Name x p) (e :: es) [] pos) ρ n K := fun M Hb ad σ H E Q q =>
  ⟨tCB (wC S (.builtin id)) (wA S (e :: es)), fun X c => pe_callB (wC_ok c) (gl_of c hg) (by rw [c.mg]; exact hm) hv (wA_ok c) hn (glB_ok hg).2 (he _) (hpl _), h M Hb ad σ H E _ fun n1 vs H1 ds k j a o =>
    o _ H1 (fun _ z => (E.keep k j).mal z) vs a Q fun u H' d s au kd => q n1 u H' d (k.trans (Kw.of s)) (g.js _ _ _ j s) au kd⟩
theorem ev_bty {T : String} {K : Nat → Dat → Prop} (hg : glB S.sc x = true) (hm : S.mg x = none) (hv : bootBuiltins x = some (.type T)) (h : EvA S g (e :: es) ρ n fun n1 ds => Cd S (.type T) ds (K n1)) (hn : x ≠ "__name__" := by decide)
    (he : ∀ env, starEach (e :: es) env = (false, eval e env) :: starEach es env := by intro _; rfl) (hpl : ∀ env, (backTo pos (starEach es env)).any (·.1) = false := by intro _; rfl) : Ev S g (.Call (.Name x p) (e :: es) [] pos) ρ n K := fun M Hb ad σ H E Q q =>
  ⟨tCB (wC S (.type T)) (wA S (e :: es)), fun X c => pe_callTy (wC_ok c) (gl_of c hg) (by rw [c.mg]; exact hm) hv (wA_ok c) hn (glB_ok hg).2 (he _) (hpl _), h M Hb ad σ H E _ fun n1 vs H1 ds k j a o =>
    o _ H1 (fun _ z => (E.keep k j).mal z) vs a Q fun u H' d s au kd => q n1 u H' d (k.trans (Kw.of s)) (g.js _ _ _ j s) au kd⟩
theorem evn_bty {T : String} {K : Nat → List Dat → Prop} (hg : glB S.sc x = true) (hm : S.mg x = none) (hv : bootBuiltins x = some (.type T)) (h : EvA S g (e :: es) ρ n fun n1 ds => CdN S (.type T) ds (K n1)) (hn : x ≠ "__name__" := by decide)
    (he : ∀ env, starEach (e :: es) env = (false, eval e env) :: starEach es env := by intro _; rfl) (hpl : ∀ env, (backTo pos (starEach es env)).any (·.1) = false := by intro _; rfl) : EvN S g (.Call (.Name x p) (e :: es) [] pos) ρ n K := fun M Hb ad σ H E Q q =>
  ⟨tCB (wC S (.type T)) (wA S (e :: es)), fun X c => pe_callTy (wC_ok c) (gl_of c hg) (by rw [c.mg]; exact hm) hv (wA_ok c) hn (glB_ok hg).2 (he _) (hpl _), h M Hb ad σ H E _ fun n1 vs H1 ds k j a o =>
    o _ H1 vs a Q fun p us H' zs f s hp hs kd => q n1 p us H' zs (E.fresh_back k j f) (k.trans (Kw.of s)) (g.js _ _ _ j s) hp hs kd⟩
theorem evn_blt {id : String} {K : Nat → List Dat → Prop} (hg : glB S.sc x = true) (hm : S.mg x = none) (hv : bootBuiltins x = some (.builtin id)) (h : EvA S g (e :: es) ρ n fun n1 ds => CdN S (.builtin id) ds (K n1)) (hn : x ≠ "__name__" := by decide)
    (he : ∀ env, starEach (e :: es) env = (false, eval e env) :: starEach es env := by intro _; rfl) (hpl : ∀ env, (backTo pos (starEach es env)).any (·.1) = false := by intro _; rfl) : EvN S g (.Call (.Name x p) (e :: es) [] pos) ρ n K := fun M Hb ad σ H E Q q =>
  ⟨tCB (wC S (.builtin id)) (wA S (e :: es)), fun X c => pe_callB (wC_ok c) (gl_of c hg) (by rw [c.mg]; exact hm) hv (wA_ok c) hn (glB_ok hg).2 (he _) (hpl _), h M Hb ad σ H E _ fun n1 vs H1 ds k j a o =>
    o _ H1 vs a Q fun p us H' zs f s hp hs kd => q n1 p us H' zs (E.fresh_back k j f) (k.trans (Kw.of s)) (g.js _ _ _ j s) hp hs kd⟩
theorem ats1 {M : Mu} {H : Hp} {d : Dat} {vs : List V} (h : Ats M H [d] vs) : ∃ v, vs = [v] ∧ At M H d v := by
  obtain ⟨v, r, rfl, h1, h2⟩ := h.cons_inv
  rw [h2.nil_inv]
  exact ⟨v, rfl, h1⟩
theorem ats2 {M : Mu} {H : Hp} {d d' : Dat} {vs : List V} (h : Ats M H [d, d'] vs) : ∃ v w, vs = [v, w] ∧ At M H d v ∧ At M H d' w := by
  obtain ⟨v, r, rfl, h1, h2⟩ := h.cons_inv
  obtain ⟨w, rfl, h3⟩ := ats1 h2
  exact ⟨v, w, rfl, h1, h3⟩
theorem c_tupL {xs : List Dat} {K : Dat → Prop} (k : K (.tup xs)) : Cd S (.type "tuple") [.lst xs] K := fun M H al vs a Q q => by
  obtain ⟨v, rfl, av⟩ := ats1 a
  obtain ⟨b, us, rfl, nb, hb, sb⟩ := at_lst av
  exact ⟨fun vs H Q => ∃ p ys, vs = [.ref p] ∧ ((SqL S.K H p ys ∧ ∀ l, H l = none → Q (.ref l) (upd H l (.tup ys))) ∨ (SqT S.K H p ys ∧ Q (.ref p) H)), fun X c => by rw [← c.K]; exact call_tuple_of, b, us, rfl, .inl ⟨SqL.of hb, fun l hl =>
    q _ _ (.tup xs) (same_new hl) (At.tup (fun z => by obtain ⟨o, e⟩ := al l z; rw [hl] at e; cases e) upd_same (sb.same (same_new hl))) k⟩⟩
theorem c_lstL {xs : List Dat} {K : List Dat → Prop} (k : K xs) : CdN S (.type "list") [.lst xs] K := fun M H vs a Q q => by
  obtain ⟨v, rfl, av⟩ := ats1 a
  obtain ⟨b, us, rfl, nb, hb, sb⟩ := at_lst av
  exact ⟨fun xs H Q => ∃ p ys, xs = [.ref p] ∧ (SqL S.K H p ys ∨ SqT S.K H p ys) ∧ ∀ l, H l = none → Q (.ref l) (upd H l (.lst ys)), fun X c => by rw [← c.K]; exact call_list_of, b, us, rfl, .inl (SqL.of hb), fun l hl => q l us _ xs hl (same_new hl) upd_same ((sb.more hl).same (same_new hl)) k⟩
theorem c_lstT {xs : List Dat} {K : List Dat → Prop} (k : K xs) : CdN S (.type "list") [.tup xs] K := fun M H vs a Q q => by
  obtain ⟨v, rfl, av⟩ := ats1 a
  obtain ⟨b, us, rfl, nb, hb, sb⟩ := at_tup av
  exact ⟨fun xs H Q => ∃ p ys, xs = [.ref p] ∧ (SqL S.K H p ys ∨ SqT S.K H p ys) ∧ ∀ l, H l = none → Q (.ref l) (upd H l (.lst ys)), fun X c => by rw [← c.K]; exact call_list_of, b, us, rfl, .inr (SqT.of hb), fun l hl => q l us _ xs hl (same_new hl) upd_same ((sb.more hl).same (same_new hl)) k⟩
/-- the length of a list, a tuple -/
def seqD : Dat → List Dat → Prop
  | .lst l, xs => l = xs
  | .tup l, xs => l = xs
  | _, _ => False
theorem c_len {d : Dat} {xs : List Dat} {K : Dat → Prop} (h : seqD d xs) (k : K (.int (xs.length : Nat))) : Cd S (.builtin "len") [d] K := fun M H al vs a Q q => by
  obtain ⟨v, rfl, av⟩ := ats1 a
  refine ⟨fun xs H Q => ∃ p ys, xs = [.ref p] ∧ (SqL S.K H p ys ∨ SqT S.K H p ys) ∧ Q (.int ys.length) H, fun X c => by rw [← c.K]; exact call_len_seq, ?_⟩
  cases d with
  | lst l =>
    obtain rfl : l = xs := h
    obtain ⟨b, us, rfl, nb, hb, sb⟩ := at_lst av
    exact ⟨b, us, rfl, .inl (SqL.of hb), by rw [sb.len]; exact q _ H _ (Same.refl H) At.int k⟩
  | tup l =>
    obtain rfl : l = xs := h
    obtain ⟨b, us, rfl, nb, hb, sb⟩ := at_tup av
    exact ⟨b, us, rfl, .inr (SqT.of hb), by rw [sb.len]; exact q _ H _ (Same.refl H) At.int k⟩
  | _ => exact h.elim
theorem c_sum {ns : List Int} {K : Dat → Prop} (k : K (.int ns.sum)) : Cd S (.builtin "sum") [.lst (ns.map .int)] K := fun M H al vs a Q q => by
  obtain ⟨v, rfl, av⟩ := ats1 a
  obtain ⟨b, us, rfl, nb, hb, sb⟩ := at_lst av
  exact ⟨rSum S.K, fun X c => by rw [← c.K]; exact cr_sum c.calm, b, ns, rfl, SqL.of (by rw [← sb.ints]; exact hb), q _ H _ (Same.refl H) At.int k⟩
theorem c_any {bs : List Bool} {K : Dat → Prop} (k : K (.bl (bs.any id))) : Cd S (.builtin "any") [.lst (bs.map .bl)] K := fun M H al vs a Q q => by
  obtain ⟨v, rfl, av⟩ := ats1 a
  obtain ⟨b, us, rfl, nb, hb, sb⟩ := at_lst av
  exact ⟨rAny S.K, fun X c => by rw [← c.K]; exact cr_any c.calm, b, bs, rfl, SqL.of (by rw [← sb.bls]; exact hb), q _ H _ (Same.refl H) At.bl k⟩
theorem c_all {bs : List Bool} {K : Dat → Prop} (k : K (.bl (bs.all id))) : Cd S (.builtin "all") [.lst (bs.map .bl)] K := fun M H al vs a Q q => by
  obtain ⟨v, rfl, av⟩ := ats1 a
  obtain ⟨b, us, rfl, nb, hb, sb⟩ := at_lst av
  exact ⟨rAll S.K, fun X c => by rw [← c.K]; exact cr_all c.calm, b, bs, rfl, SqL.of (by rw [← sb.bls]; exact hb), q _ H _ (Same.refl H) At.bl k⟩
theorem c_max {ns : List Int} {K : Dat → Prop} (h : ns ≠ []) (k : ∀ m, m ∈ ns → (∀ y ∈ ns, y ≤ m) → K (.int m)) : Cd S (.builtin "max") [.lst (ns.map .int)] K := fun M H al vs a Q q => by
  obtain ⟨v, rfl, av⟩ := ats1 a
  obtain ⟨b, us, rfl, nb, hb, sb⟩ := at_lst av
  exact ⟨rMax S.K, fun X c => by rw [← c.K]; exact cr_max c.calm, b, ns, rfl, SqL.of (by rw [← sb.ints]; exact hb), List.length_pos_iff.mpr h, fun m h1 h2 => q _ H _ (Same.refl H) At.int (k m h1 h2)⟩
theorem c_min {ns : List Int} {K : Dat → Prop} (h : ns ≠ []) (k : ∀ m, m ∈ ns → (∀ y ∈ ns, m ≤ y) → K (.int m)) : Cd S (.builtin "min") [.lst (ns.map .int)] K := fun M H al vs a Q q => by
  obtain ⟨v, rfl, av⟩ := ats1 a
  obtain ⟨b, us, rfl, nb, hb, sb⟩ := at_lst av
  exact ⟨rMin S.K, fun X c => by rw [← c.K]; exact cr_min c.calm, b, ns, rfl, SqL.of (by rw [← sb.ints]; exact hb), List.length_pos_iff.mpr h, fun m h1 h2 => q _ H _ (Same.refl H) At.int (k m h1 h2)⟩
theorem c_max2 {i j : Int} {K : Dat → Prop} (k : K (.int (if j > i then j else i))) : Cd S (.builtin "max") [.int i, .int j] K := fun M H al vs a Q q => by
  obtain ⟨v, w, rfl, av, aw⟩ := ats2 a
  exact ⟨_, fun X c => call_max2 c.calm, i, j, by rw [at_int av, at_int aw], q _ H _ (Same.refl H) At.int k⟩
theorem c_min2 {i j : Int} {K : Dat → Prop} (k : K (.int (if j < i then j else i))) : Cd S (.builtin "min") [.int i, .int j] K := fun M H al vs a Q q => by
  obtain ⟨v, w, rfl, av, aw⟩ := ats2 a
  exact ⟨_, fun X c => call_min2 c.calm, i, j, by rw [at_int av, at_int aw], q _ H _ (Same.refl H) At.int k⟩
theorem c_int {i : Int} {K : Dat → Prop} (k : K (.int i)) : Cd S (.type "int") [.int i] K := fun M H al vs a Q q => by
  obtain ⟨v, rfl, av⟩ := ats1 a
  exact ⟨_, fun X c => call_int1, .inl ⟨i, by rw [at_int av], q _ H _ (Same.refl H) At.int k⟩⟩
theorem c_intB {i : Bool} {K : Dat → Prop} (k : K (.int (if i then 1 else 0))) : Cd S (.type "int") [.bl i] K := fun M H al vs a Q q => by
  obtain ⟨v, rfl, av⟩ := ats1 a
  exact ⟨_, fun X c => call_int1, .inr ⟨i, by rw [at_bl av], q _ H _ (Same.refl H) At.int k⟩⟩
theorem c_sorted {ns : List Int} {K : List Dat → Prop} (h : ns.length < 64) (k : ∀ ms : List Int, ms.Perm ns → ms.Pairwise (· ≤ ·) → K (ms.map .int)) {d : Dat} (hd : d = .lst (ns.map .int)) : CdN S (.builtin "sorted") [d] K := fun M H vs a Q q => by
  subst hd
  obtain ⟨v, rfl, av⟩ := ats1 a
  obtain ⟨b, us, rfl, nb, hb, sb⟩ := at_lst av
  exact ⟨rSorted S.K, fun X c => by rw [← c.K]; exact cr_sorted, b, ns, rfl, SqL.of (by rw [← sb.ints]; exact hb), h, fun ms p h1 h2 hp => q p _ _ (ms.map .int) hp (same_new hp) upd_same Ats.of_ints (k ms h1 h2)⟩
/-- the pure forms -/
theorem ed_tupleL {xs : List Dat} (hg : glB S.sc "tuple" = true) (hm : S.mg "tuple" = none) (h : Ed S g e ρ (.lst xs)) (he : ∀ env, starEach [e] env = (false, eval e env) :: starEach [] env := by intro _; rfl) : Ed S g (.Call (.Name "tuple" p) [e] [] pos) ρ (.tup xs) := fun n =>
  ev_bty hg hm PyProof.Rows.boot_tuple (((eda_cons h eda_nil he) n).imp fun _ _ z => by rw [z.2]; exact c_tupL ⟨z.1, rfl⟩) (by decide) he
theorem edn_listL {xs : List Dat} (hg : glB S.sc "list" = true) (hm : S.mg "list" = none) (h : Ed S g e ρ (.lst xs)) (he : ∀ env, starEach [e] env = (false, eval e env) :: starEach [] env := by intro _; rfl) : EdN S g (.Call (.Name "list" p) [e] [] pos) ρ xs := fun n =>
  evn_bty hg hm PyProof.Rows.boot_list (((eda_cons h eda_nil he) n).imp fun _ _ z => by rw [z.2]; exact c_lstL ⟨z.1, rfl⟩) (by decide) he
theorem edn_listT {xs : List Dat} (hg : glB S.sc "list" = true) (hm : S.mg "list" = none) (h : Ed S g e ρ (.tup xs)) (he : ∀ env, starEach [e] env = (false, eval e env) :: starEach [] env := by intro _; rfl) : EdN S g (.Call (.Name "list" p) [e] [] pos) ρ xs := fun n =>
  evn_bty hg hm PyProof.Rows.boot_list (((eda_cons h eda_nil he) n).imp fun _ _ z => by rw [z.2]; exact c_lstT ⟨z.1, rfl⟩) (by decide) he
theorem ed_blt {id : String} {ds : List Dat} (hg : glB S.sc x = true) (hm : S.mg x = none) (hv : bootBuiltins x = some (.builtin id)) (h : EdA S g (e :: es) ρ ds) (hc : ∀ K : Dat → Prop, K d → Cd S (.builtin id) ds K) (hn : x ≠ "__name__" := by decide)
    (he : ∀ env, starEach (e :: es) env = (false, eval e env) :: starEach es env := by intro _; rfl) (hpl : ∀ env, (backTo pos (starEach es env)).any (·.1) = false := by intro _; rfl) : Ed S g (.Call (.Name x p) (e :: es) [] pos) ρ d := fun n =>
  ev_blt hg hm hv ((h n).imp fun _ _ z => by rw [z.2]; exact hc _ ⟨z.1, rfl⟩) hn he hpl
theorem ed_bty {T : String} {ds : List Dat} (hg : glB S.sc x = true) (hm : S.mg x = none) (hv : bootBuiltins x = some (.type T)) (h : EdA S g (e :: es) ρ ds) (hc : ∀ K : Dat → Prop, K d → Cd S (.type T) ds K) (hn : x ≠ "__name__" := by decide)
    (he : ∀ env, starEach (e :: es) env = (false, eval e env) :: starEach es env := by intro _; rfl) (hpl : ∀ env, (backTo pos (starEach es env)).any (·.1) = false := by intro _; rfl) : Ed S g (.Call (.Name x p) (e :: es) [] pos) ρ d := fun n =>
  ev_bty hg hm hv ((h n).imp fun _ _ z => by rw [z.2]; exact hc _ ⟨z.1, rfl⟩) hn he hpl
theorem ed_len {d' : Dat} {xs : List Dat} (hg : glB S.sc "len" = true) (hm : S.mg "len" = none) (h : Ed S g e ρ d') (hd : seqD d' xs) (he : ∀ env, starEach [e] env = (false, eval e env) :: starEach [] env := by intro _; rfl) : Ed S g (.Call (.Name "len" p) [e] [] pos) ρ (.int (xs.length : Nat)) :=
  ed_blt hg hm PySem.boot_len (eda_cons h eda_nil he) (fun K k => c_len hd k) (by decide) he
theorem ed_int1 {i : Int} (hg : glB S.sc "int" = true) (hm : S.mg "int" = none) (h : Ed S g e ρ (.int i)) (he : ∀ env, starEach [e] env = (false, eval e env) :: starEach [] env := by intro _; rfl) : Ed S g (.Call (.Name "int" p) [e] [] pos) ρ (.int i) :=
  ed_bty hg hm PyProof.Rows.boot_int (eda_cons h eda_nil he) (fun K k => c_int k) (by decide) he
theorem ed_intB {i : Bool} (hg : glB S.sc "int" = true) (hm : S.mg "int" = none) (h : Ed S g e ρ (.bl i)) (he : ∀ env, starEach [e] env = (false, eval e env) :: starEach [] env := by intro _; rfl) : Ed S g (.Call (.Name "int" p) [e] [] pos) ρ (.int (if i then 1 else 0)) :=
  ed_bty hg hm PyProof.Rows.boot_int (eda_cons h eda_nil he) (fun K k => c_intB k) (by decide) he
/-- list(range(e)) -/
theorem edn_listRg {j : Int} {p2 pos2 : Pos} (hg : glB S.sc "list" = true) (hm : S.mg "list" = none) (hg2 : glB S.sc "range" = true) (hm2 : S.mg "range" = none) (h : Ed S g e ρ (.int j)) (h0 : 0 ≤ j) (h1 : j ≤ 1000)
    (he : ∀ env, starEach [e] env = (false, eval e env) :: starEach [] env := by intro _; rfl) (he2 : ∀ env, starEach [.Call (.Name "range" p2) [e] [] pos2] env = (false, eval (.Call (.Name "range" p2) [e] [] pos2) env) :: starEach [] env := by intro _; rfl) :
    EdN S g (.Call (.Name "list" p) [.Call (.Name "range" p2) [e] [] pos2] [] pos) ρ (rgD 0 j.toNat) := fun n M Hb ad σ H E Q q =>
  ⟨tLstRg (tRg1 (wE S e)), fun X c => pe_listRg c.calm (gl_of c hg) (by rw [c.mg]; exact hm) (prg_1 (gl_of c hg2) (by rw [c.mg]; exact hm2) (wE_ok c) (he _)) (he2 _), h n M Hb ad σ H E _ fun n1 v H1 d k1 j1 a ⟨e1, e2⟩ => by
    subst e1 e2
    refine ⟨j, at_int a, RgOk.of_le (Int.le_refl 0) (by omega) (by omega) h0, fun l hl => q _ l _ _ _ (E.fresh_back k1 j1 hl) (k1.trans (Kw.of (same_new hl))) (g.js _ _ _ j1 (same_new hl)) upd_same ?_ ⟨rfl, rfl⟩⟩
    unfold rgD rgV
    rw [Int.sub_zero]
    exact Ats.map fun _ _ => At.int⟩
/-- the type of a datum -/
def dTy : Dat → String
  | .non => "NoneType"
  | .bl _ => "bool"
  | .int _ => "int"
  | .str _ => "str"
  | .tup _ => "tuple"
  | .lst _ => "list"
  | .obj _ _ _ _ => "?"
theorem tyx {K : PySem.W.Frag} {M : Mu} {H : Hp} {d : Dat} {v : V} (h : At M H d v) (ho : dTy d ≠ "?") : TyX K H v (.type (dTy d)) := by
  cases d with
  | non => rw [at_non h]; exact .base .non
  | bl b => rw [at_bl h]; exact .base (.bl b)
  | int i => rw [at_int h]; exact .base (.int i)
  | str i => rw [at_str h]; exact .base (.str i)
  | tup l => obtain ⟨a, vs, rfl, _, ha, _⟩ := at_tup h; exact .base (.tup ha)
  | lst l => obtain ⟨a, vs, rfl, _, ha, _⟩ := at_lst h; exact .base (.lst ha)
  | obj o C ns l => exact absurd rfl ho
theorem ed_isi {T : Str} {n' : String} {r : Bool} {p2 : Pos} (hg : glB S.sc "isinstance" = true) (hm : S.mg "isinstance" = none) (hg2 : glB S.sc T = true) (hm2 : S.mg T = none) (hv2 : bootBuiltins T = some (.type n')) (hn2 : T ≠ "__name__") (h : Ed S g e ρ d) (ho : dTy d ≠ "?") (hk : kitB (dTy d) n' = some r)
    (he : ∀ env, starEach [e, .Name T p2] env = (false, eval e env) :: starEach [.Name T p2] env := by intro _; rfl) : Ed S g (.Call (.Name "isinstance" p) [e, .Name T p2] [] pos) ρ (.bl r) := fun n M Hb ad σ H E Q q =>
  ⟨tCB (rIsi S.K) (tCons (wE S e) (tCons (tC (.ty n')) tNil)), fun X c => pe_callB (by rw [← c.K]; exact call_isi) (gl_of c hg) (by rw [c.mg]; exact hm) PyProof.Rows.boot_isinstance (pa_cons (wE_ok c) (pa_cons (pe_bltn (gl_of c hg2) (by rw [c.mg]; exact hm2) hv2 rfl hn2 (glB_ok hg2).2) pa_nil) (he _)) (by decide) (glB_ok hg).2 (he _),
    h n M Hb ad σ H E _ fun n1 v H1 d' k j a ⟨e1, e2⟩ => by
      subst e1 e2
      exact ⟨v, .ty n', _, _, r, rfl, .ty n', tyx a ho, kit_ty hk, q _ _ H1 _ k j At.bl ⟨rfl, rfl⟩⟩⟩
theorem ed_isi2 {T U : Str} {n' n2 : String} {r : Bool} {p2 p3 pt : Pos} {kt : Nat} (hg : glB S.sc "isinstance" = true) (hm : S.mg "isinstance" = none) (hg2 : glB S.sc T = true) (hm2 : S.mg T = none) (hv2 : bootBuiltins T = some (.type n')) (hn2 : T ≠ "__name__") (hg3 : glB S.sc U = true) (hm3 : S.mg U = none) (hv3 : bootBuiltins U = some (.type n2)) (hn3 : U ≠ "__name__") (h : Ed S g e ρ d) (ho : dTy d ≠ "?")
    (hk : ∃ r1 r2, kitB (dTy d) n' = some r1 ∧ kitB (dTy d) n2 = some r2 ∧ r = (r1 || r2)) (he : ∀ env, starEach [e, .Tuple [.Name T p2, .Name U p3] kt pt] env = (false, eval e env) :: starEach [.Tuple [.Name T p2, .Name U p3] kt pt] env := by intro _; rfl) :
    Ed S g (.Call (.Name "isinstance" p) [e, .Tuple [.Name T p2, .Name U p3] kt pt] [] pos) ρ (.bl r) := fun n M Hb ad σ H E Q q =>
  ⟨tCB (rIsiT S.K) (tCons (wE S e) (tCons (tTup (tCons (tC (.ty n')) (tCons (tC (.ty n2)) tNil))) tNil)), fun X c => pe_callB (by rw [← c.K]; exact call_isiT) (gl_of c hg) (by rw [c.mg]; exact hm) PyProof.Rows.boot_isinstance (pa_cons (wE_ok c) (pa_cons (pe_tup (pa_cons (pe_bltn (gl_of c hg2) (by rw [c.mg]; exact hm2) hv2 rfl hn2 (glB_ok hg2).2) (pa_cons (pe_bltn (gl_of c hg3) (by rw [c.mg]; exact hm3) hv3 rfl hn3 (glB_ok hg3).2) pa_nil))) pa_nil) (he _)) (by decide) (glB_ok hg).2 (he _),
    h n M Hb ad σ H E _ fun n1 v H1 d' k j a ⟨e1, e2⟩ => by
      subst e1 e2
      obtain ⟨r1, r2, k1, k2, er⟩ := hk
      refine ⟨by show 2 ≤ sizeLine; decide, fun t ht => ⟨v, t, _, _, [.type n', .type n2], r, rfl, upd_same, .cons (.ty n') (.cons (.ty n2) .nil), tyx (a.same (same_new ht)) ho, kitAny_cons (kit_ty k1) (fun z => kitAny_cons (kit_ty k2) (fun z2 => by rw [er, z, z2]; exact kitAny_nil) fun z2 => by rw [er, z, z2]; rfl) (fun z => by rw [er, z]; rfl), q _ _ _ _ (k.trans (Kw.of (same_new ht))) (g.js _ _ _ j (same_new ht)) At.bl ⟨rfl, rfl⟩⟩⟩⟩
end
end Kb
set_option maxHeartbeats 0
namespace Kb
open PySem PySem.Spec PyProof.Rows L2
def top (i : Nat) : Stmt := PySem.Challenge.pw_keybench_k69_whole_keys_told_back_from_d.main.body.getD i (.Pass ⟨0, 0, 0, 0⟩)
abbrev s_scaled : Stmt := top 1
abbrev s_added : Stmt := top 2
abbrev s_less : Stmt := top 3
abbrev s_costs_at : Stmt := top 4
abbrev s_flags : Stmt := top 5
abbrev s_cases : Stmt := top 6
abbrev s_late_rows : Stmt := top 7
abbrev s_case_rows : Stmt := top 8
abbrev s_is_integer : Stmt := top 10
abbrev s_key : Stmt := top 11
abbrev s_comes_to : Stmt := top 13
abbrev s_Table___init__ : Stmt := inClass (top 14) 0
abbrev s_Table_reduced : Stmt := inClass (top 14) 1
abbrev s_Table_exchange : Stmt := inClass (top 14) 2
abbrev s_Table_entering : Stmt := inClass (top 14) 3
abbrev s_Table_leaving : Stmt := inClass (top 14) 4
abbrev s_Table_limits_more : Stmt := inClass (top 14) 5
abbrev s_Table_improve : Stmt := inClass (top 14) 6
abbrev s_Table_point : Stmt := inClass (top 14) 7
abbrev s_Table_multipliers : Stmt := inClass (top 14) 8
abbrev s_table_row : Stmt := top 15
abbrev s_solved : Stmt := top 16
abbrev s_are_integers : Stmt := top 17
abbrev s_vector_of : Stmt := top 19
abbrev s_row_of : Stmt := top 20
abbrev s_rows_of : Stmt := top 21
abbrev s_rule_of : Stmt := top 22
abbrev s_fits : Stmt := top 23
abbrev s_find_fitting : Stmt := top 24
abbrev s_find_quarrel : Stmt := top 25
abbrev s_is_quarrel : Stmt := top 26
abbrev s_first_order : Stmt := top 28
abbrev s_least_start : Stmt := top 30
abbrev s_first_start : Stmt := top 31
abbrev s_demands : Stmt := top 32
abbrev s_ranked : Stmt := top 33
abbrev s_find_ring : Stmt := top 34
abbrev s__law_open : Stmt := top 36
abbrev s__law_spread : Stmt := top 37
abbrev s__law_take : Stmt := top 38
abbrev s__law_same : Stmt := top 39
abbrev s__law_one_of : Stmt := top 40
abbrev s__law_from : Stmt := top 41
abbrev s__law_hours : Stmt := top 42
abbrev s__law_draw_job : Stmt := top 43
abbrev s__law_draw_small : Stmt := top 44
abbrev s__law_draw_term : Stmt := top 45
abbrev s__law_draw_entry : Stmt := top 46
abbrev s__law_draw_measure : Stmt := top 47
abbrev s__law_draw_key : Stmt := top 48
abbrev s__law_draw_rule : Stmt := top 49
abbrev s__law_cost : Stmt := top 50
abbrev s__law_value : Stmt := top 51
abbrev s__law_key : Stmt := top 52
abbrev s__law_sign : Stmt := top 53
abbrev s__law_plus : Stmt := top 54
abbrev s__law_scaled : Stmt := top 55
abbrev s__law_cases : Stmt := top 56
abbrev s__law_case_rows : Stmt := top 57
abbrev s__law_draw_right : Stmt := top 58
abbrev s__law_is_rule : Stmt := top 59
abbrev s__law_fits : Stmt := top 60
abbrev s__law_is_quarrel : Stmt := top 61
abbrev s__law_first : Stmt := top 62
abbrev s__law_wanted : Stmt := top 63
abbrev s__law_draw_catalogue : Stmt := top 64
abbrev s__law_is_order : Stmt := top 65
abbrev s__law_ranks : Stmt := top 66
abbrev s__law_is_demand : Stmt := top 67
abbrev s__law_is_ring : Stmt := top 68
abbrev s_law : Stmt := top 69
def d_scaled : He.DefD := ⟨("scaled", none), "scaled", "scaled", defArgs s_scaled, defBody s_scaled, defScope s_scaled, [], []⟩
def d_added : He.DefD := ⟨("added", none), "added", "added", defArgs s_added, defBody s_added, defScope s_added, [], []⟩
def d_less : He.DefD := ⟨("less", none), "less", "less", defArgs s_less, defBody s_less, defScope s_less, [], []⟩
def d_costs_at : He.DefD := ⟨("costs_at", none), "costs_at", "costs_at", defArgs s_costs_at, defBody s_costs_at, defScope s_costs_at, [], []⟩
def d_flags : He.DefD := ⟨("flags", none), "flags", "flags", defArgs s_flags, defBody s_flags, defScope s_flags, [], []⟩
def d_cases : He.DefD := ⟨("cases", none), "cases", "cases", defArgs s_cases, defBody s_cases, defScope s_cases, [], []⟩
def d_late_rows : He.DefD := ⟨("late_rows", none), "late_rows", "late_rows", defArgs s_late_rows, defBody s_late_rows, defScope s_late_rows, [], []⟩
def d_case_rows : He.DefD := ⟨("case_rows", none), "case_rows", "case_rows", defArgs s_case_rows, defBody s_case_rows, defScope s_case_rows, [], []⟩
def d_is_integer : He.DefD := ⟨("is_integer", none), "is_integer", "is_integer", defArgs s_is_integer, defBody s_is_integer, defScope s_is_integer, [], []⟩
def d_key : He.DefD := ⟨("key", none), "key", "key", defArgs s_key, defBody s_key, defScope s_key, [], []⟩
def d_comes_to : He.DefD := ⟨("comes_to", none), "comes_to", "comes_to", defArgs s_comes_to, defBody s_comes_to, defScope s_comes_to, [], []⟩
def d_Table___init__ : He.DefD := ⟨("Table", some "__init__"), "__init__", "Table.__init__", defArgs s_Table___init__, defBody s_Table___init__, defScope s_Table___init__, [], []⟩
def d_Table_reduced : He.DefD := ⟨("Table", some "reduced"), "reduced", "Table.reduced", defArgs s_Table_reduced, defBody s_Table_reduced, defScope s_Table_reduced, [], []⟩
def d_Table_exchange : He.DefD := ⟨("Table", some "exchange"), "exchange", "Table.exchange", defArgs s_Table_exchange, defBody s_Table_exchange, defScope s_Table_exchange, [], []⟩
def d_Table_entering : He.DefD := ⟨("Table", some "entering"), "entering", "Table.entering", defArgs s_Table_entering, defBody s_Table_entering, defScope s_Table_entering, [], []⟩
def d_Table_leaving : He.DefD := ⟨("Table", some "leaving"), "leaving", "Table.leaving", defArgs s_Table_leaving, defBody s_Table_leaving, defScope s_Table_leaving, [], []⟩
def d_Table_limits_more : He.DefD := ⟨("Table", some "limits_more"), "limits_more", "Table.limits_more", defArgs s_Table_limits_more, defBody s_Table_limits_more, defScope s_Table_limits_more, [], []⟩
def d_Table_improve : He.DefD := ⟨("Table", some "improve"), "improve", "Table.improve", defArgs s_Table_improve, defBody s_Table_improve, defScope s_Table_improve, [], []⟩
def d_Table_point : He.DefD := ⟨("Table", some "point"), "point", "Table.point", defArgs s_Table_point, defBody s_Table_point, defScope s_Table_point, [], []⟩
def d_Table_multipliers : He.DefD := ⟨("Table", some "multipliers"), "multipliers", "Table.multipliers", defArgs s_Table_multipliers, defBody s_Table_multipliers, defScope s_Table_multipliers, [], []⟩
def d_table_row : He.DefD := ⟨("table_row", none), "table_row", "table_row", defArgs s_table_row, defBody s_table_row, defScope s_table_row, [], []⟩
def d_solved : He.DefD := ⟨("solved", none), "solved", "solved", defArgs s_solved, defBody s_solved, defScope s_solved, [], []⟩
def d_are_integers : He.DefD := ⟨("are_integers", none), "are_integers", "are_integers", defArgs s_are_integers, defBody s_are_integers, defScope s_are_integers, [], []⟩
def d_vector_of : He.DefD := ⟨("vector_of", none), "vector_of", "vector_of", defArgs s_vector_of, defBody s_vector_of, defScope s_vector_of, [], []⟩
def d_row_of : He.DefD := ⟨("row_of", none), "row_of", "row_of", defArgs s_row_of, defBody s_row_of, defScope s_row_of, [], []⟩
def d_rows_of : He.DefD := ⟨("rows_of", none), "rows_of", "rows_of", defArgs s_rows_of, defBody s_rows_of, defScope s_rows_of, [], []⟩
def d_rule_of : He.DefD := ⟨("rule_of", none), "rule_of", "rule_of", defArgs s_rule_of, defBody s_rule_of, defScope s_rule_of, [], []⟩
def d_fits : He.DefD := ⟨("fits", none), "fits", "fits", defArgs s_fits, defBody s_fits, defScope s_fits, [], []⟩
def d_find_fitting : He.DefD := ⟨("find_fitting", none), "find_fitting", "find_fitting", defArgs s_find_fitting, defBody s_find_fitting, defScope s_find_fitting, [], []⟩
def d_find_quarrel : He.DefD := ⟨("find_quarrel", none), "find_quarrel", "find_quarrel", defArgs s_find_quarrel, defBody s_find_quarrel, defScope s_find_quarrel, [], []⟩
def d_is_quarrel : He.DefD := ⟨("is_quarrel", none), "is_quarrel", "is_quarrel", defArgs s_is_quarrel, defBody s_is_quarrel, defScope s_is_quarrel, [], []⟩
def d_first_order : He.DefD := ⟨("first_order", none), "first_order", "first_order", defArgs s_first_order, defBody s_first_order, defScope s_first_order, [], []⟩
def d_least_start : He.DefD := ⟨("least_start", none), "least_start", "least_start", defArgs s_least_start, defBody s_least_start, defScope s_least_start, [], []⟩
def d_first_start : He.DefD := ⟨("first_start", none), "first_start", "first_start", defArgs s_first_start, defBody s_first_start, defScope s_first_start, [], []⟩
def d_demands : He.DefD := ⟨("demands", none), "demands", "demands", defArgs s_demands, defBody s_demands, defScope s_demands, [], []⟩
def d_ranked : He.DefD := ⟨("ranked", none), "ranked", "ranked", defArgs s_ranked, defBody s_ranked, defScope s_ranked, [], []⟩
def d_find_ring : He.DefD := ⟨("find_ring", none), "find_ring", "find_ring", defArgs s_find_ring, defBody s_find_ring, defScope s_find_ring, [], []⟩
def d__law_open : He.DefD := ⟨("_law_open", none), "_law_open", "_law_open", defArgs s__law_open, defBody s__law_open, defScope s__law_open, [], []⟩
def d__law_spread : He.DefD := ⟨("_law_spread", none), "_law_spread", "_law_spread", defArgs s__law_spread, defBody s__law_spread, defScope s__law_spread, [], []⟩
def d__law_take : He.DefD := ⟨("_law_take", none), "_law_take", "_law_take", defArgs s__law_take, defBody s__law_take, defScope s__law_take, [], []⟩
def d__law_same : He.DefD := ⟨("_law_same", none), "_law_same", "_law_same", defArgs s__law_same, defBody s__law_same, defScope s__law_same, [], []⟩
def d__law_one_of : He.DefD := ⟨("_law_one_of", none), "_law_one_of", "_law_one_of", defArgs s__law_one_of, defBody s__law_one_of, defScope s__law_one_of, [], []⟩
def d__law_from : He.DefD := ⟨("_law_from", none), "_law_from", "_law_from", defArgs s__law_from, defBody s__law_from, defScope s__law_from, [], []⟩
def d__law_hours : He.DefD := ⟨("_law_hours", none), "_law_hours", "_law_hours", defArgs s__law_hours, defBody s__law_hours, defScope s__law_hours, [], []⟩
def d__law_draw_job : He.DefD := ⟨("_law_draw_job", none), "_law_draw_job", "_law_draw_job", defArgs s__law_draw_job, defBody s__law_draw_job, defScope s__law_draw_job, [], []⟩
def d__law_draw_small : He.DefD := ⟨("_law_draw_small", none), "_law_draw_small", "_law_draw_small", defArgs s__law_draw_small, defBody s__law_draw_small, defScope s__law_draw_small, [], []⟩
def d__law_draw_term : He.DefD := ⟨("_law_draw_term", none), "_law_draw_term", "_law_draw_term", defArgs s__law_draw_term, defBody s__law_draw_term, defScope s__law_draw_term, [], []⟩
def d__law_draw_entry : He.DefD := ⟨("_law_draw_entry", none), "_law_draw_entry", "_law_draw_entry", defArgs s__law_draw_entry, defBody s__law_draw_entry, defScope s__law_draw_entry, [], []⟩
def d__law_draw_measure : He.DefD := ⟨("_law_draw_measure", none), "_law_draw_measure", "_law_draw_measure", defArgs s__law_draw_measure, defBody s__law_draw_measure, defScope s__law_draw_measure, [], []⟩
def d__law_draw_key : He.DefD := ⟨("_law_draw_key", none), "_law_draw_key", "_law_draw_key", defArgs s__law_draw_key, defBody s__law_draw_key, defScope s__law_draw_key, [], []⟩
def d__law_draw_rule : He.DefD := ⟨("_law_draw_rule", none), "_law_draw_rule", "_law_draw_rule", defArgs s__law_draw_rule, defBody s__law_draw_rule, defScope s__law_draw_rule, [], []⟩
def d__law_cost : He.DefD := ⟨("_law_cost", none), "_law_cost", "_law_cost", defArgs s__law_cost, defBody s__law_cost, defScope s__law_cost, [], []⟩
def d__law_value : He.DefD := ⟨("_law_value", none), "_law_value", "_law_value", defArgs s__law_value, defBody s__law_value, defScope s__law_value, [], []⟩
def d__law_key : He.DefD := ⟨("_law_key", none), "_law_key", "_law_key", defArgs s__law_key, defBody s__law_key, defScope s__law_key, [], []⟩
def d__law_sign : He.DefD := ⟨("_law_sign", none), "_law_sign", "_law_sign", defArgs s__law_sign, defBody s__law_sign, defScope s__law_sign, [], []⟩
def d__law_plus : He.DefD := ⟨("_law_plus", none), "_law_plus", "_law_plus", defArgs s__law_plus, defBody s__law_plus, defScope s__law_plus, [], []⟩
def d__law_scaled : He.DefD := ⟨("_law_scaled", none), "_law_scaled", "_law_scaled", defArgs s__law_scaled, defBody s__law_scaled, defScope s__law_scaled, [], []⟩
def d__law_cases : He.DefD := ⟨("_law_cases", none), "_law_cases", "_law_cases", defArgs s__law_cases, defBody s__law_cases, defScope s__law_cases, [], []⟩
def d__law_case_rows : He.DefD := ⟨("_law_case_rows", none), "_law_case_rows", "_law_case_rows", defArgs s__law_case_rows, defBody s__law_case_rows, defScope s__law_case_rows, [], []⟩
def d__law_draw_right : He.DefD := ⟨("_law_draw_right", none), "_law_draw_right", "_law_draw_right", defArgs s__law_draw_right, defBody s__law_draw_right, defScope s__law_draw_right, [], []⟩
def d__law_is_rule : He.DefD := ⟨("_law_is_rule", none), "_law_is_rule", "_law_is_rule", defArgs s__law_is_rule, defBody s__law_is_rule, defScope s__law_is_rule, [], []⟩
def d__law_fits : He.DefD := ⟨("_law_fits", none), "_law_fits", "_law_fits", defArgs s__law_fits, defBody s__law_fits, defScope s__law_fits, [], []⟩
def d__law_is_quarrel : He.DefD := ⟨("_law_is_quarrel", none), "_law_is_quarrel", "_law_is_quarrel", defArgs s__law_is_quarrel, defBody s__law_is_quarrel, defScope s__law_is_quarrel, [], []⟩
def d__law_first : He.DefD := ⟨("_law_first", none), "_law_first", "_law_first", defArgs s__law_first, defBody s__law_first, defScope s__law_first, [], []⟩
def d__law_wanted : He.DefD := ⟨("_law_wanted", none), "_law_wanted", "_law_wanted", defArgs s__law_wanted, defBody s__law_wanted, defScope s__law_wanted, [], []⟩
def d__law_draw_catalogue : He.DefD := ⟨("_law_draw_catalogue", none), "_law_draw_catalogue", "_law_draw_catalogue", defArgs s__law_draw_catalogue, defBody s__law_draw_catalogue, defScope s__law_draw_catalogue, [], []⟩
def d__law_is_order : He.DefD := ⟨("_law_is_order", none), "_law_is_order", "_law_is_order", defArgs s__law_is_order, defBody s__law_is_order, defScope s__law_is_order, [], []⟩
def d__law_ranks : He.DefD := ⟨("_law_ranks", none), "_law_ranks", "_law_ranks", defArgs s__law_ranks, defBody s__law_ranks, defScope s__law_ranks, [], []⟩
def d__law_is_demand : He.DefD := ⟨("_law_is_demand", none), "_law_is_demand", "_law_is_demand", defArgs s__law_is_demand, defBody s__law_is_demand, defScope s__law_is_demand, [], []⟩
def d__law_is_ring : He.DefD := ⟨("_law_is_ring", none), "_law_is_ring", "_law_is_ring", defArgs s__law_is_ring, defBody s__law_is_ring, defScope s__law_is_ring, [], []⟩
def d_law : He.DefD := ⟨("law", none), "law", "law", defArgs s_law, defBody s_law, defScope s_law, [], []⟩
def fn0 : List He.DefD := [d_scaled, d_added, d_less, d_costs_at, d_flags, d_cases, d_late_rows, d_case_rows, d_is_integer, d_key, d_comes_to, d_Table___init__, d_Table_reduced, d_Table_exchange, d_Table_entering, d_Table_leaving, d_Table_limits_more, d_Table_improve, d_Table_point, d_Table_multipliers, d_table_row, d_solved, d_are_integers, d_vector_of, d_row_of, d_rows_of, d_rule_of, d_fits, d_find_fitting, d_find_quarrel]
def fn1 : List He.DefD := [d_is_quarrel, d_first_order, d_least_start, d_first_start, d_demands, d_ranked, d_find_ring, d__law_open, d__law_spread, d__law_take, d__law_same, d__law_one_of, d__law_from, d__law_hours, d__law_draw_job, d__law_draw_small, d__law_draw_term, d__law_draw_entry, d__law_draw_measure, d__law_draw_key, d__law_draw_rule, d__law_cost, d__law_value, d__law_key, d__law_sign, d__law_plus, d__law_scaled, d__law_cases, d__law_case_rows, d__law_draw_right]
def fn2 : List He.DefD := [d__law_is_rule, d__law_fits, d__law_is_quarrel, d__law_first, d__law_wanted, d__law_draw_catalogue, d__law_is_order, d__law_ranks, d__law_is_demand, d__law_is_ring, d_law]
def fn : List He.DefD := fn0 ++ fn1 ++ fn2
def fa0 : List He.Fa := [.glo "scaled", .glo "added", .glo "less", .glo "costs_at", .glo "flags", .glo "cases", .glo "late_rows", .glo "case_rows", .glo "is_integer", .glo "key", .glo "comes_to", .glo "Table", .glo "table_row", .glo "solved", .glo "are_integers", .glo "vector_of", .glo "row_of", .glo "rows_of", .glo "rule_of", .glo "fits", .glo "find_fitting", .glo "find_quarrel", .glo "is_quarrel", .glo "first_order", .glo "least_start", .glo "first_start", .glo "demands", .glo "ranked", .glo "find_ring", .glo "_law_open"]
def fa1 : List He.Fa := [.glo "_law_spread", .glo "_law_take", .glo "_law_same", .glo "_law_one_of", .glo "_law_from", .glo "_law_hours", .glo "_law_draw_job", .glo "_law_draw_small", .glo "_law_draw_term", .glo "_law_draw_entry", .glo "_law_draw_measure", .glo "_law_draw_key", .glo "_law_draw_rule", .glo "_law_cost", .glo "_law_value", .glo "_law_key", .glo "_law_sign", .glo "_law_plus", .glo "_law_scaled", .glo "_law_cases", .glo "_law_case_rows", .glo "_law_draw_right", .glo "_law_is_rule", .glo "_law_fits", .glo "_law_is_quarrel", .glo "_law_first", .glo "_law_wanted", .glo "_law_draw_catalogue", .glo "_law_is_order", .glo "_law_ranks"]
def fa2 : List He.Fa := [.glo "_law_is_demand", .glo "_law_is_ring", .glo "law", .free "all", .free "any", .free "bool", .free "enumerate", .free "int", .free "isinstance", .free "len", .free "list", .free "max", .free "min", .free "range", .free "set", .free "sorted", .free "str", .free "sum", .free "tuple", .free "zip", .cls "Table", .mkr "Table", .meth "Table" "reduced", .meth "Table" "exchange", .meth "Table" "entering", .meth "Table" "leaving", .meth "Table" "limits_more", .meth "Table" "improve", .meth "Table" "point", .meth "Table" "multipliers"]
def fa3 : List He.Fa := [.noat "Table" "size", .noat "Table" "rows", .noat "Table" "goal", .noat "Table" "columns", .noat "Table" "basis", .noat "Table" "denominator"]
def fa : List He.Fa := fa0 ++ fa1 ++ fa2 ++ fa3
def lo0 : List PySem.Str := ["scaled", "added", "less", "costs_at", "flags", "cases", "late_rows", "case_rows", "is_integer", "key", "comes_to", "Table", "table_row", "solved", "are_integers", "vector_of", "row_of", "rows_of", "rule_of", "fits", "find_fitting", "find_quarrel", "is_quarrel", "first_order", "least_start", "first_start", "demands", "ranked", "find_ring", "_law_open"]
def lo1 : List PySem.Str := ["_law_spread", "_law_take", "_law_same", "_law_one_of", "_law_from", "_law_hours", "_law_draw_job", "_law_draw_small", "_law_draw_term", "_law_draw_entry", "_law_draw_measure", "_law_draw_key", "_law_draw_rule", "_law_cost", "_law_value", "_law_key", "_law_sign", "_law_plus", "_law_scaled", "_law_cases", "_law_case_rows", "_law_draw_right", "_law_is_rule", "_law_fits", "_law_is_quarrel", "_law_first", "_law_wanted", "_law_draw_catalogue", "_law_is_order", "_law_ranks"]
def lo2 : List PySem.Str := ["_law_is_demand", "_law_is_ring"]
def lo : List PySem.Str := lo0 ++ lo1 ++ lo2
abbrev R : PySem.W.OpenRow := PySem.W.OpenLaw.row PySem.Challenge.rw_keybench_k69_whole_keys_told_back_from_d
abbrev hk : PySem.W.Hook := He.hookD 5 fa fn
def ob (s : PySem.W.SharedT) : He.AlD := He.obsDG 5 fa fn (HandSHeadRun.getT s)
theorem ob_eq (s : PySem.W.SharedT) : ob s = hk.obs s.abs := He.obsDG_eq (HandSHeadRun.getT_eq s)
theorem run (w : World) : HandSHeadRun.RunEq R (PySem.W.view R.prog [69]) hk ob 4000 lo w := by
  intro os
  kernel_rfl
end Kb
set_option maxHeartbeats 4000000
namespace Kb
open PySem PySem.Spec PyProof.Rows L2
/-- what the top has left -/
structure Head (G : Gc) : Prop where
  ex : ∃ h : Heap, G.K.In h ∧ h.Ns mainGlobals G.mg
  says : He.SaysD fa fn G.K
section
variable {G : Gc}
theorem Head.glo (H : Head G) {x : Str} (i : Nat) (h : fa[i]? = some (.glo x) := by kernel_rfl) : G.mg x = some (.ref (He.ga G.K x)) := by
  obtain ⟨h1, X, N⟩ := H.ex
  exact He.glo_ok X N (H.says.fact i h)
theorem Head.free (H : Head G) {x : Str} (i : Nat) (h : fa[i]? = some (.free x) := by kernel_rfl) : G.mg x = none := by
  obtain ⟨h1, X, N⟩ := H.ex
  exact He.free_ok X N (H.says.fact i h)
theorem Head.pure (H : Head G) {x : Str} {st : Stmt} {N ps : List Str} {k : Nat} {R : List Dat → Dat → Prop} (i j : Nat) (hi : fn[i]? = some ⟨(x, none), x, x, defArgs st, defBody st, defScope st, [], []⟩) (hj : fa[j]? = some (.glo x)) (Sc : FnScope N ps (defScope st))
    (hb : ∀ (kV doc pm : Value) (an : Option Addr) (cdv ct : Value) (us : List Value), us.length = ps.length → bindArgs (PySem.W.fnOf x x (defArgs st) (defBody st) (defScope st) .none kV doc pm an cdv ct) ⟨us, []⟩ = Pure.pure (ps.zip us))
    (h : ∀ A, Room k A → ∀ ds d, ds.length = ps.length → R ds d → Ex (G.sg A N (defScope st)) wd0 (defBody st) (startE N (ds.map Sl.dat)) 0 { nx := fun _ _ => d = .non, rt := fun _ d' => d' = d }) : HasF G x (k + 1) ps.length (PureSp ps.length R) := by
  obtain ⟨fd, F⟩ := H.says.def_ i hi
  exact ⟨_, fd, ps, H.glo j hj, F.kp, F.bindsN hb, rfl, pure_ok F Sc h⟩
theorem Head.pen (H : Head G) {x : Str} {st : Stmt} {N ps : List Str} {k cst : Nat} {Pre : List Dat → Prop} {R : List Dat → Dat → Prop} (i j : Nat) (hi : fn[i]? = some ⟨(x, none), x, x, defArgs st, defBody st, defScope st, [], []⟩) (hj : fa[j]? = some (.glo x)) (Sc : FnScope N ps (defScope st))
    (hb : ∀ (kV doc pm : Value) (an : Option Addr) (cdv ct : Value) (us : List Value), us.length = ps.length → bindArgs (PySem.W.fnOf x x (defArgs st) (defBody st) (defScope st) .none kV doc pm an cdv ct) ⟨us, []⟩ = Pure.pure (ps.zip us))
    (h : ∀ A, Room k A → ∀ p c n ds, ds.length + 1 = ps.length → Pre ds → n + cst ≤ 100000 → Ex (G.sg A N (defScope st)) (penW p c) (defBody st) (startE N (.raw p :: ds.map Sl.dat)) n { nx := fun _ _ => False, rt := fun n' d' => n' ≤ n + cst ∧ R ds d' }) : HasF G x (k + 1) ps.length (PenSp ps.length cst Pre R) := by
  obtain ⟨fd, F⟩ := H.says.def_ i hi
  exact ⟨_, fd, ps, H.glo j hj, F.kp, F.bindsN hb, rfl, pen_ok F Sc h⟩
end
end Kb
/-! zip of two or three lists and tuples, strict or not -/
namespace Kb
open PySem PySem.Spec PyProof.Rows L2
/-- one source: its iterator, its place, whether it is a tuple -/
structure Zs where
  it : Addr
  a : Addr
  t : Bool
def Zs.at (x : Zs) (i : Nat) (h : Heap) : Prop := match x.t with
  | true => h.IsTupleIter x.it x.a i
  | false => h.IsListIter x.it x.a i
def Zs.src (x : Zs) (h : Heap) (items : Array Value) : Prop := match x.t with
  | true => h.IsTuple x.a items
  | false => h.IsList x.a items
abbrev IsZ (st : Bool) (h : Heap) (z TI TO : Addr) (f0 : Value) : Prop :=
  h.get? z = some { cls := .type "zip", dict := none, data := .fields #[f0, .bool false, .bool st, .ref TI, .ref TO], slots := #[] }
abbrev IsTp (h : Heap) (T : Addr) (us : List Value) : Prop := h.get? T = some { cls := .type "tuple", data := .seq us.toArray }
structure ZSep (z TI TO : Addr) (xs : List Zs) : Prop where
  TIz : TI ≠ z
  TOz : TO ≠ z
  TITO : TI ≠ TO
  itz : ∀ x ∈ xs, x.it ≠ z ∧ x.it ≠ TI ∧ x.it ≠ TO
  az : ∀ x ∈ xs, x.a ≠ z ∧ x.a ≠ TO
  ai : ∀ x ∈ xs, ∀ y ∈ xs, x.a ≠ y.it
  nd : (xs.map (·.it)).Nodup
  ne : xs ≠ []
section
variable {prog : Program} {w : World} {A : Around} {E : Value → Shared → Prop} {s : Shared}
theorem Zs.at_more {x : Zs} {i : Nat} {h h' : Heap} (st : x.at i h) (k : ∀ o, h.get? x.it = some o → h'.get? x.it = some o) : x.at i h' := by
  unfold Zs.at at st ⊢
  split at st
  · exact Heap.IsTupleIter.at st k
  · exact Heap.IsListIter.at st k
theorem Zs.src_more {x : Zs} {its : Array Value} {h h' : Heap} (st : x.src h its) (k : ∀ o, h.get? x.a = some o → h'.get? x.a = some o) : x.src h' its := by
  unfold Zs.src at st ⊢
  split at st
  · exact Heap.IsTuple.at st k
  · exact Heap.IsList.at st k
theorem Zs.at_live {x : Zs} {i : Nat} {h : Heap} (st : x.at i h) : ∃ o, h.get? x.it = some o ∧ ∀ v, o.data ≠ .cell v := by
  unfold Zs.at at st
  split at st
  · obtain ⟨o, e, _, d⟩ := st
    exact ⟨o, e, fun v q => by rw [d] at q; cases q⟩
  · obtain ⟨o, e, _, d⟩ := st
    exact ⟨o, e, fun v q => by rw [d] at q; cases q⟩
theorem z_nextOf {x : Zs} {i : Nat} {its : Array Value} {u : Value} {Q : Value → Shared → Prop} (st : x.at i s.heap) (hs : x.src s.heap its) (hu : its[i]? = some u)
    (hQ : ∀ h', x.at (i + 1) h' → Heap.SameBut x.it s.heap h' → Q u { s with heap := h' }) : wpAny (model prog w) A (Builtin.SmallTypes.nextOf (.ref x.it)) Q E s := by
  obtain ⟨it, a, t⟩ := x
  cases t with
  | true => exact wpAny_nextOf_tuple_item st hs hu hQ
  | false => exact wpAny_nextOf_list_item st hs hu hQ
theorem z_endOf {x : Zs} {i : Nat} {its : Array Value} {Q : Value → Shared → Prop} (hh : A.handled = none) (st : x.at i s.heap) (hs : x.src s.heap its) (hu : its[i]? = none)
    (hE : ∀ h' e, Heap.ExtBut x.it s.heap h' → (∃ o, h'.get? e = some o ∧ o.cls = .type "StopIteration") → E (.ref e) { s with heap := h' }) : wpAny (model prog w) A (Builtin.SmallTypes.nextOf (.ref x.it)) Q E s := by
  obtain ⟨it, a, t⟩ := x
  cases t with
  | true => exact wpAny_nextOf_tuple_end hh st hs hu hE
  | false => exact wpAny_nextOf_list_end hh st hs hu hE
theorem z_orEnd {x : Zs} {i : Nat} {its : Array Value} {u : Value} {Q : Option Value → Shared → Prop} (st : x.at i s.heap) (hs : x.src s.heap its) (hu : its[i]? = some u)
    (hQ : ∀ h', x.at (i + 1) h' → Heap.SameBut x.it s.heap h' → Q (some u) { s with heap := h' }) : wpAny (model prog w) A (Builtin.SmallTypes.nextOrEnd (.ref x.it)) Q E s := by
  unfold Builtin.SmallTypes.nextOrEnd
  exact wpAny_bind (wpAny_attempt (z_nextOf st hs hu fun h' a b => wpAny_pure (hQ h' a b)))
theorem z_orEndN {x : Zs} {i : Nat} {its : Array Value} {Q : Option Value → Shared → Prop} (hh : A.handled = none) (st : x.at i s.heap) (hs : x.src s.heap its) (hu : its[i]? = none)
    (hQ : ∀ h', Heap.ExtBut x.it s.heap h' → Q none { s with heap := h' }) : wpAny (model prog w) A (Builtin.SmallTypes.nextOrEnd (.ref x.it)) Q E s := by
  unfold Builtin.SmallTypes.nextOrEnd
  refine wpAny_bind (wpAny_attempt (z_endOf hh st hs hu fun h' e a ⟨o, ho, hc⟩ => ?_))
  refine wpAny_bind (wpAny_isInstance (T := "StopIteration") (b := true) ⟨o, ho, hc⟩ isSubtype_stop ?_)
  exact wpAny_pure (hQ h' a)
theorem z_draw {st : Bool} {x : Zs} {i : Nat} {its : Array Value} {u : Value} {m : Sem (Option Value)} {Q : Option Value → Shared → Prop} (hm : m = if st then Builtin.SmallTypes.nextOrEnd (.ref x.it) else (do return some (← Builtin.SmallTypes.nextOf (.ref x.it)))) (hat : x.at i s.heap) (hs : x.src s.heap its) (hu : its[i]? = some u)
    (hQ : ∀ h', x.at (i + 1) h' → Heap.SameBut x.it s.heap h' → Q (some u) { s with heap := h' }) : wpAny (model prog w) A m Q E s := by
  subst hm
  cases st with
  | true => exact z_orEnd hat hs hu hQ
  | false => exact wpAny_bind (z_nextOf hat hs hu fun h' a b => wpAny_pure (hQ h' a b))
theorem set_mid {us olds : List Value} {k : Nat} {u : Value} (hl : olds.length = us.length) (hu : us[k]? = some u) : (us.take k ++ olds.drop k).set k u = us.take (k + 1) ++ olds.drop (k + 1) := by
  have hk : k < us.length := (List.getElem?_eq_some_iff.mp hu).1
  rw [List.set_append_right _ _ (by rw [List.length_take]; omega), List.length_take, Nat.min_eq_left (Nat.le_of_lt hk), Nat.sub_self, List.take_add_one, hu, List.append_assoc, List.drop_eq_getElem_cons (by omega)]
  rfl
theorem z_next {st : Bool} {z TI TO : Addr} {xs : List Zs} {i : Nat} {us olds : List Value} {Q : Value → Shared → Prop} (S : ZSep z TI TO xs) (hz : IsZ st s.heap z TI TO .none) (hTI : IsTp s.heap TI (xs.map fun x => .ref x.it)) (hTO : IsTp s.heap TO olds) (hl : olds.length = xs.length) (hu : us.length = xs.length)
    (hat : ∀ x ∈ xs, x.at i s.heap) (hsrc : ∀ (j : Nat) x u, xs[j]? = some x → us[j]? = some u → ∃ its, x.src s.heap its ∧ its[i]? = some u) (hn : xs.length ≤ 10)
    (hQ : ∀ h', IsZ st h' z TI TO (rawInt s.heap.objs.size) → IsTp h' TO us → (∀ x ∈ xs, x.at (i + 1) h') → IsTp h' s.heap.objs.size us → h'.objs.size = s.heap.objs.size + 1 →
      (∀ c o, c ≠ z → c ≠ TO → (∀ x ∈ xs, c ≠ x.it) → s.heap.get? c = some o → h'.get? c = some o) → Q (.ref s.heap.objs.size) { s with heap := h' }) :
    wpAny (model prog w) A (Builtin.«zip.__next__» ⟨[.ref z], []⟩) (fun fin s' => ∃ v, fin = .done (.ret v) ∧ Q v s') E s := by
  obtain ⟨hp, g, d, tk0, os⟩ := s
  have ten : (10 : Nat) ≤ sizeLine := by decide
  show wpAny _ _ (field (.ref z) 2 >>= _) _ _ _
  refine wpAny_bind (wpAny_field hz rfl (x := .bool st) rfl ?_)
  show wpAny _ _ (field (.ref z) 3 >>= _) _ _ _
  refine wpAny_bind (wpAny_field hz rfl (x := .ref TI) rfl ?_)
  refine wpAny_bind (wpAny_seqItems hTI rfl ?_)
  have hne : ((xs.map fun x => Value.ref x.it).toArray.isEmpty) = false := by
    have := S.ne
    cases xs with
    | nil => exact absurd rfl this
    | cons x r => rfl
  dsimp only
  rw [if_neg (by rw [hne]; decide)]
  refine wpAny_bind ?_
  unfold Builtin.SmallTypes.ownedTupleIsFree
  refine wpAny_bind (wpAny_field hz rfl (x := .none) rfl (wpAny_pure ?_))
  simp only [if_true]
  refine wpAny_bind (wpAny_rule ?_)
  refine wpAny_bind (wpAny_field hz rfl (x := .ref TO) rfl ?_)
  refine wpAny_bind (wpAny_setField_rec hz (by simp) fun g0 hz0 hs0 => ?_)
  replace hz0 : IsZ st g0 z TI TO .ellipsis := hz0
  replace hs0 : Heap.SameBut z hp g0 := hs0
  refine wpAny_bind ?_
  refine wpAny_forIn_list _ (fun l b s' => b = (none, ()) ∧ ∃ (k : Nat) (h' : Heap), s' = ⟨h', g, d, tk0, os⟩ ∧ l = ((xs.map fun x => Value.ref x.it).drop k).zipIdx k ∧ k ≤ xs.length ∧ IsZ st h' z TI TO .ellipsis ∧ IsTp h' TO (us.take k ++ olds.drop k) ∧
      (∀ (j : Nat) x, xs[j]? = some x → x.at (if j < k then i + 1 else i) h') ∧ h'.objs.size = hp.objs.size ∧ ∀ c o, c ≠ z → c ≠ TO → (∀ x ∈ xs, c ≠ x.it) → hp.get? c = some o → h'.get? c = some o) _ ?_ ?_ _ _ ⟨rfl, 0, g0, rfl, by rw [List.drop_zero], Nat.zero_le _, hz0, ?_, fun j x e => ?_, hs0.1, fun c o c1 c2 c3 e => hs0.extBut _ _ c1 e⟩
  · rintro ⟨v, k'⟩ rest b s' ⟨rfl, k, h', rfl, el, hk, hz', hTO', hat', hsz, hkp⟩
    have hlt : k < xs.length := by
      rcases Nat.lt_or_ge k xs.length with z | z
      · exact z
      · rw [List.drop_eq_nil_of_le (by rw [List.length_map]; exact z)] at el
        cases el
    rw [List.drop_eq_getElem_cons (by rw [List.length_map]; exact hlt), List.zipIdx_cons] at el
    injection el with e1 e2
    injection e1 with e3 e4
    subst e3 e4 e2
    have ex : xs[k']? = some xs[k'] := List.getElem?_eq_getElem hlt
    have eu : us[k']? = some (us[k']'(by omega)) := List.getElem?_eq_getElem (by omega)
    obtain ⟨its, q1, q2⟩ := hsrc k' _ _ ex eu
    have hx := hat' k' _ ex
    rw [if_neg (Nat.lt_irrefl _)] at hx
    have mx : xs[k'] ∈ xs := List.getElem_mem hlt
    have hsr : (xs[k']).src h' its := Zs.src_more q1 fun o e => hkp _ o (S.az _ mx).1 (S.az _ mx).2 (fun y hy => S.ai _ mx y hy) e
    rw [List.getElem_map]
    refine wpAny_bind (wpAny_onRaise (z_draw (st := st) (x := xs[k']) (by cases st <;> rfl) hx hsr q2 fun h1 hx1 hs1 => ?_))
    replace hs1 : Heap.SameBut (xs[k']).it h' h1 := hs1
    have hU : IsTp h1 TO (us.take k' ++ olds.drop k') := hs1.extBut _ _ (S.itz _ mx).2.2.symm hTO'
    have len1 : (us.take k' ++ olds.drop k').length = xs.length := by rw [List.length_append, List.length_take, List.length_drop]; omega
    refine wpAny_bind (wpAny_seqItems (s := ⟨h1, g, d, tk0, os⟩) hU rfl ?_)
    refine wpAny_bind (wpAny_updateSeq (s := ⟨h1, g, d, tk0, os⟩) hU rfl ?_ (by rw [List.size_toArray, len1]; omega) (by rw [Array.size_setIfInBounds, List.size_toArray, len1]; omega))
    refine wpAny_bind (wpAny_letGo (wpAny_pure ⟨rfl, k' + 1, _, rfl, rfl, hlt, ?_, ?_, fun j x e => ?_, ?_, fun c o c1 c2 c3 e => ?_⟩))
    · exact (Heap.SameBut.update ..).extBut _ _ S.TOz.symm (hs1.extBut _ _ (S.itz _ mx).1.symm hz')
    · show (h1.update TO _).get? TO = _
      rw [Heap.get?_update_self _ hU rfl]
      simp only [Obj.mapSeq, List.setIfInBounds_toArray]
      rw [set_mid (by omega) eu, if_pos (by rw [List.size_toArray, List.size_toArray, len1, List.length_append, List.length_take, List.length_drop]; simp; omega)]
    · by_cases hj : j = k'
      · subst hj
        rw [ex] at e
        cases e
        rw [if_pos (Nat.lt_succ_self _)]
        exact Zs.at_more hx1 fun o e => (Heap.SameBut.update ..).extBut _ _ (S.itz _ mx).2.2 e
      · have hx' := hat' j x e
        have mj : x ∈ xs := List.mem_of_getElem? e
        have ne : x.it ≠ (xs[k']).it := fun q => hj (by
          have h1 : (xs.map (·.it))[j]? = some x.it := by rw [List.getElem?_map, e]; rfl
          have h2 : (xs.map (·.it))[k']? = some x.it := by rw [List.getElem?_map, ex, q]; rfl
          obtain ⟨l1, h1⟩ := List.getElem?_eq_some_iff.mp h1
          obtain ⟨l2, h2⟩ := List.getElem?_eq_some_iff.mp h2
          exact (List.getElem_inj S.nd).mp (h1.trans h2.symm))
        have : (if j < k' + 1 then i + 1 else i) = if j < k' then i + 1 else i := by
          by_cases hjk : j < k'
          · rw [if_pos hjk, if_pos (by omega)]
          · rw [if_neg hjk, if_neg (by omega)]
        rw [this]
        exact Zs.at_more (Zs.at_more hx' fun o e => hs1.extBut _ _ ne e) fun o e => (Heap.SameBut.update ..).extBut _ _ (S.itz _ mj).2.2 e
    · exact (Heap.SameBut.update h1 TO _).1.trans (hs1.1.trans hsz)
    · exact (Heap.SameBut.update ..).extBut _ _ c2 (hs1.extBut _ _ (c3 _ mx) (hkp c o c1 c2 c3 e))
  · rintro b s' ⟨rfl, k, h', rfl, el, hk, hz', hTO', hat', hsz, hkp⟩
    have hge : xs.length ≤ k := by
      rcases Nat.lt_or_ge k xs.length with z | z
      · rw [List.drop_eq_getElem_cons (by rw [List.length_map]; exact z), List.zipIdx_cons] at el
        cases el
      · exact z
    have ek : k = xs.length := by omega
    subst ek
    rw [← hu, List.take_length, hu, ← hl, List.drop_length, List.append_nil] at hTO'
    have ulen : us.length ≤ sizeLine := by omega
    dsimp only
    refine wpAny_bind (wpAny_seqItems (s := ⟨h', g, d, tk0, os⟩) hTO' rfl ?_)
    refine wpAny_bind (wpAny_newTuple ?_ (by simpa using ulen))
    have hzlt : z < h'.objs.size := Heap.lt_size hz'
    show wpAny _ _ (Builtin.SmallTypes.ownedTupleHandOut (.ref z) (.ref h'.objs.size) >>= _) _ _ ⟨h'.push { cls := .type "tuple", data := .seq us.toArray }, g, d, tk0, os⟩
    refine wpAny_bind ?_
    unfold Builtin.SmallTypes.ownedTupleHandOut
    have hz₆ : IsZ st (h'.push { cls := .type "tuple", data := .seq us.toArray }) z TI TO .ellipsis := Heap.get?_push_of_some _ hz'
    refine wpAny_bind (wpAny_setField_rec hz₆ (by simp) fun h₇ hz₇ hs₇ => ?_)
    replace hz₇ : IsZ st h₇ z TI TO (rawInt h'.objs.size) := hz₇
    refine wpAny_setField_rec hz₇ (by simp) fun h₈ hz₈ hs₈ => ?_
    replace hz₈ : IsZ st h₈ z TI TO (rawInt h'.objs.size) := hz₈
    replace hs₇ : Heap.SameBut z (h'.push { cls := .type "tuple", data := .seq us.toArray }) h₇ := hs₇
    replace hs₈ : Heap.SameBut z h₇ h₈ := hs₈
    have up : ∀ c o, c ≠ z → h'.get? c = some o → h₈.get? c = some o := fun c o c1 e => hs₈.extBut _ _ c1 (hs₇.extBut _ _ c1 (Heap.get?_push_of_some _ e))
    have hT₈ : IsTp h₈ h'.objs.size us := hs₈.extBut _ _ (Nat.ne_of_gt hzlt) (hs₇.extBut _ _ (Nat.ne_of_gt hzlt) (Heap.get?_push_size _ rfl))
    have hz8 : h₈.objs.size = h'.objs.size + 1 := by rw [hs₈.1, hs₇.1, Heap.size_push]
    rw [hsz] at hz₈ hT₈ hz8
    refine wpAny_pure ⟨_, rfl, ?_⟩
    show Q (.ref h'.objs.size) ⟨h₈, g, d, tk0, os⟩
    rw [hsz]
    exact hQ h₈ hz₈ (up _ _ S.TOz hTO') (fun x hx => by
      obtain ⟨j, ej⟩ := List.mem_iff_getElem?.mp hx
      have := hat' j x ej
      rw [if_pos (List.getElem?_eq_some_iff.mp ej).1] at this
      exact Zs.at_more this fun o e => up _ o (S.itz x hx).1 e) hT₈ hz8 fun c o c1 c2 c3 e => up c o c1 (hkp c o c1 c2 c3 e)
  · rw [List.take_zero, List.drop_zero, List.nil_append]
    exact hs0.extBut _ _ S.TOz hTO
  · rw [if_neg (Nat.not_lt_zero _)]
    exact Zs.at_more (hat x (List.mem_of_getElem? e)) fun o q => hs0.extBut _ _ (S.itz x (List.mem_of_getElem? e)).1 q
theorem wpAny_stopIt {α : Type} {Q : α → Shared → Prop} (hh : A.handled = none) (hE : ∀ h' e, (∀ c o, s.heap.get? c = some o → h'.get? c = some o) → (∃ o, h'.get? e = some o ∧ o.cls = .type "StopIteration") → E (.ref e) { s with heap := h' }) :
    wpAny (model prog w) A (Builtin.SmallTypes.stopIteration : Sem α) Q E s := by
  show wpAny _ _ (newExc (.type "StopIteration") [] >>= _) _ _ _
  refine wpAny_bind ?_
  simp only [newExc, newTuple]
  refine wpAny_bind (wpAny_newObj_type ?_ (by size_fits))
  refine wpAny_bind (m := firstArgMember _ _) (wpAny_of_eq (a := Value.none) (by first | rfl | (simp only [firstArgMember]; rfl)) ?_)
  refine wpAny_newObj_type ?_ (by size_fits)
  simp only [raiseNew]
  refine wpAny_bind (wpAny_handled ?_)
  first | rw [show A.in1.handled = none from hh] | rw [hh]
  refine wpAny_bind (wpAny_pure (wpAny_throw ?_))
  exact hE _ _ (fun c o e => Heap.get?_push_of_some _ (Heap.get?_push_of_some _ e)) ⟨_, Heap.get?_push_size _ rfl, rfl⟩
theorem z_end {st : Bool} {z TI TO : Addr} {xs : List Zs} {i : Nat} {olds : List Value} {Q : Fin → Shared → Prop} (hh : A.handled = none) (S : ZSep z TI TO xs) (hz : IsZ st s.heap z TI TO .none) (hTI : IsTp s.heap TI (xs.map fun x => .ref x.it)) (hTO : IsTp s.heap TO olds)
    (hat : ∀ x ∈ xs, x.at i s.heap) (hsrc : ∀ x ∈ xs, ∃ its, x.src s.heap its ∧ its[i]? = none)
    (hE : ∀ h' e, (∀ c o, c ≠ z → c ≠ TO → (∀ x ∈ xs, c ≠ x.it) → s.heap.get? c = some o → h'.get? c = some o) → (∃ o, h'.get? e = some o ∧ o.cls = .type "StopIteration") → E (.ref e) { s with heap := h' }) :
    wpAny (model prog w) A (Builtin.«zip.__next__» ⟨[.ref z], []⟩) Q E s := by
  obtain ⟨hp, g, d, tk0, os⟩ := s
  cases xs with
  | nil => exact absurd rfl S.ne
  | cons x0 r =>
  show wpAny _ _ (field (.ref z) 2 >>= _) _ _ _
  refine wpAny_bind (wpAny_field hz rfl (x := .bool st) rfl ?_)
  show wpAny _ _ (field (.ref z) 3 >>= _) _ _ _
  refine wpAny_bind (wpAny_field hz rfl (x := .ref TI) rfl ?_)
  refine wpAny_bind (wpAny_seqItems hTI rfl ?_)
  dsimp only
  rw [if_neg (by simp)]
  refine wpAny_bind ?_
  unfold Builtin.SmallTypes.ownedTupleIsFree
  refine wpAny_bind (wpAny_field hz rfl (x := .none) rfl (wpAny_pure ?_))
  simp only [if_true]
  refine wpAny_bind (wpAny_rule ?_)
  refine wpAny_bind (wpAny_field hz rfl (x := .ref TO) rfl ?_)
  refine wpAny_bind (wpAny_setField_rec hz (by simp) fun g0 hz0 hs0 => ?_)
  replace hz0 : IsZ st g0 z TI TO .ellipsis := hz0
  replace hs0 : Heap.SameBut z hp g0 := hs0
  have m0 : x0 ∈ x0 :: r := List.mem_cons_self
  have at0 : x0.at i g0 := Zs.at_more (hat x0 m0) fun o e => hs0.extBut _ _ (S.itz x0 m0).1 e
  obtain ⟨its, q1, q2⟩ := hsrc x0 m0
  have sr0 : x0.src g0 its := Zs.src_more q1 fun o e => hs0.extBut _ _ (S.az x0 m0).1 e
  refine wpAny_bind ?_
  simp only [List.map_cons, List.zipIdx_cons, List.forIn_cons]
  cases st with
  | false =>
    refine wpAny_bind (wpAny_bind (wpAny_onRaise ?_))
    show wpAny _ _ (Builtin.SmallTypes.nextOf (.ref x0.it) >>= _) _ _ ⟨g0, g, d, tk0, os⟩
    refine wpAny_bind (z_endOf hh at0 sr0 q2 fun q e hq he => ?_)
    obtain ⟨oe, hoe, hce⟩ := he
    have hzq : IsZ false q z TI TO .ellipsis := hq _ _ (S.itz x0 m0).1.symm hz0
    have hez : e ≠ z := fun x => by subst x; rw [hzq] at hoe; cases hoe; simp at hce
    refine wpAny_setField_rec (s := ⟨q, g, d, tk0, os⟩) hzq (by simp) fun q' _ hq' => ?_
    replace hq' : Heap.SameBut z q q' := hq'
    exact hE q' e (fun c o cz cT c1 x => hq'.extBut _ _ cz (hq _ _ (c1 x0 m0) (hs0.extBut _ _ cz x))) ⟨oe, hq'.extBut _ _ hez hoe, hce⟩
  | true =>
    refine wpAny_bind (wpAny_bind (wpAny_onRaise ?_))
    show wpAny _ _ (Builtin.SmallTypes.nextOrEnd (.ref x0.it)) _ _ ⟨g0, g, d, tk0, os⟩
    refine z_orEndN hh at0 sr0 q2 fun q hq => ?_
    have hzq : IsZ true q z TI TO .ellipsis := hq _ _ (S.itz x0 m0).1.symm hz0
    dsimp only
    refine wpAny_bind (wpAny_setField_rec (s := ⟨q, g, d, tk0, os⟩) hzq (by simp) fun q' _ hq' => ?_)
    replace hq' : Heap.SameBut z q q' := hq'
    have k0 : ∀ c o, c ≠ z → c ≠ x0.it → hp.get? c = some o → q'.get? c = some o := fun c o cz c1 e => hq'.extBut _ _ cz (hq _ _ c1 (hs0.extBut _ _ cz e))
    refine wpAny_bind ?_
    show wpAny _ _ (forIn ((r.map fun x => Value.ref x.it).zipIdx 1) PUnit.unit _ >>= _) _ _ _
    refine wpAny_bind ?_
    have nd := List.nodup_cons.mp (show ((x0.it :: r.map (·.it))).Nodup from S.nd)
    refine wpAny_forIn_list _ (fun l b s' => ∃ (k : Nat) (h' : Heap) (rest : List Zs), s' = ⟨h', g, d, tk0, os⟩ ∧ l = ((rest.map fun x => Value.ref x.it).zipIdx k) ∧ (∀ x ∈ rest, x ∈ r) ∧ (rest.map (·.it)).Nodup ∧ (∀ x ∈ rest, x.at i h') ∧ ∀ c o, c ≠ z → c ≠ TO → (∀ x ∈ x0 :: r, c ≠ x.it) → hp.get? c = some o → h'.get? c = some o) _ ?_ ?_ _ _ ⟨1, q', r, rfl, rfl, fun _ h => h, nd.2, fun x hx => ?_, fun c o c1 c2 c3 e => k0 c o c1 (c3 x0 m0) e⟩
    · rintro ⟨v, k'⟩ rest b s' ⟨k, h', rs, rfl, el, hsub, hnd, hat', hkp⟩
      cases rs with
      | nil => cases el
      | cons x rs =>
        rw [List.map_cons, List.zipIdx_cons] at el
        injection el with e1 e2
        injection e1 with e3 e4
        subst e3 e4 e2
        have mx : x ∈ x0 :: r := List.mem_cons_of_mem _ (hsub x List.mem_cons_self)
        obtain ⟨its', q1', q2'⟩ := hsrc x mx
        have sr' : x.src h' its' := Zs.src_more q1' fun o e => hkp _ o (S.az x mx).1 (S.az x mx).2 (fun y hy => S.ai x mx y hy) e
        refine wpAny_bind (z_orEndN hh (hat' x List.mem_cons_self) sr' q2' fun h1 hq1 => ?_)
        refine wpAny_pure ⟨_, h1, rs, rfl, rfl, fun y hy => hsub y (List.mem_cons_of_mem _ hy), (List.nodup_cons.mp hnd).2, fun y hy => ?_, fun c o c1 c2 c3 e => hq1 _ _ (c3 x mx) (hkp c o c1 c2 c3 e)⟩
        have ne : y.it ≠ x.it := fun z => (List.nodup_cons.mp hnd).1 (List.mem_map.mpr ⟨y, hy, z⟩)
        exact Zs.at_more (hat' y (List.mem_cons_of_mem _ hy)) fun o e => hq1 _ _ ne e
    · rintro b s' ⟨k, h', rs, rfl, el, hsub, hnd, hat', hkp⟩
      refine wpAny_bind (wpAny_rule ?_)
      refine wpAny_stopIt hh fun h1 e hk he => hE h1 e (fun c o c1 c2 c3 q => hk c o (hkp c o c1 c2 c3 q)) he
    · have mx : x ∈ x0 :: r := List.mem_cons_of_mem _ hx
      have ne : x.it ≠ x0.it := fun z => nd.1 (List.mem_map.mpr ⟨x, hx, z⟩)
      exact Zs.at_more (hat x mx) fun o e => k0 _ o (S.itz x mx).1 ne e
theorem pyNext_z {st : Bool} {z TI TO : Addr} {xs : List Zs} {i : Nat} {us olds : List Value} {Q : Option Value → Shared → Prop} (S : ZSep z TI TO xs) (hz : IsZ st s.heap z TI TO .none) (hTI : IsTp s.heap TI (xs.map fun x => .ref x.it)) (hTO : IsTp s.heap TO olds) (hl : olds.length = xs.length) (hu : us.length = xs.length)
    (hat : ∀ x ∈ xs, x.at i s.heap) (hsrc : ∀ (j : Nat) x u, xs[j]? = some x → us[j]? = some u → ∃ its, x.src s.heap its ∧ its[i]? = some u) (hn : xs.length ≤ 10)
    (hQ : ∀ h', IsZ st h' z TI TO (rawInt s.heap.objs.size) → IsTp h' TO us → (∀ x ∈ xs, x.at (i + 1) h') → IsTp h' s.heap.objs.size us → h'.objs.size = s.heap.objs.size + 1 →
      (∀ c o, c ≠ z → c ≠ TO → (∀ x ∈ xs, c ≠ x.it) → s.heap.get? c = some o → h'.get? c = some o) → Q (some (.ref s.heap.objs.size)) { s with heap := h' }) :
    wpAny (model prog w) A (pyNext (.ref z)) Q E s := by
  have hT : s.TypeIs (.ref z) "zip" := ⟨_, hz, rfl⟩
  unfold pyNext
  exact wpAny_bind (wpAny_attempt (wpAny_callSpecial?_slot (name := Str.ofString "__next__") hT F.slot_zip_next
    (wpAny_call_entry F.slot_zip_next hT F.entry_zip_next
      (z_next S hz hTI hTO hl hu hat hsrc hn fun h' a1 a2 a3 a4 a5 a6 => wpAny_pure (hQ h' a1 a2 a3 a4 a5 a6)) (F.args_zip_next_1 _))))
theorem pyNext_zE {st : Bool} {z TI TO : Addr} {xs : List Zs} {i : Nat} {olds : List Value} {Q : Option Value → Shared → Prop} (hh : A.in1.handled = none) (S : ZSep z TI TO xs) (hz : IsZ st s.heap z TI TO .none) (hTI : IsTp s.heap TI (xs.map fun x => .ref x.it)) (hTO : IsTp s.heap TO olds)
    (hat : ∀ x ∈ xs, x.at i s.heap) (hsrc : ∀ x ∈ xs, ∃ its, x.src s.heap its ∧ its[i]? = none)
    (hQ : ∀ h', (∀ c o, c ≠ z → c ≠ TO → (∀ x ∈ xs, c ≠ x.it) → s.heap.get? c = some o → h'.get? c = some o) → Q none { s with heap := h' }) : wpAny (model prog w) A (pyNext (.ref z)) Q E s := by
  have hT : s.TypeIs (.ref z) "zip" := ⟨_, hz, rfl⟩
  unfold pyNext
  refine wpAny_bind (wpAny_attempt (wpAny_callSpecial?_slot (name := Str.ofString "__next__") hT F.slot_zip_next
    (wpAny_call_entry F.slot_zip_next hT F.entry_zip_next (z_end hh S hz hTI hTO hat hsrc fun h' e hk he => ?_) (F.args_zip_next_1 _))))
  obtain ⟨o, ho, hc⟩ := he
  refine wpAny_bind (wpAny_isInstance (T := "StopIteration") (b := true) ⟨o, ho, hc⟩ isSubtype_stop ?_)
  exact wpAny_pure (hQ _ hk)
theorem pyIter_z {st : Bool} {z TI TO : Addr} {f0 : Value} {Q : Value → Shared → Prop} (hz : IsZ st s.heap z TI TO f0) (h : Q (.ref z) s) : wpAny (model prog w) A (pyIter (.ref z)) Q E s := by
  have hT : s.TypeIs (.ref z) "zip" := ⟨_, hz, rfl⟩
  refine wpAny_pyIter_slot hT F.slot_zip_iter (wpAny_call_entry F.slot_zip_iter hT F.entry_zip_iter ?_ (F.args_zip_iter_1 _))
  show wpAny _ _ (ret (.ref z)) _ _ s
  exact wpAny_pure ⟨_, rfl, "zip", _, hT, F.slot_zip_next.lookup, h⟩
theorem letGo_z {st : Bool} {elts : List Expr} {x1} {pos : Pos} {z TI TO T : Addr} {Q : Unit → Shared → Prop} (hz : IsZ st s.heap z TI TO (rawInt T))
    (hQ : ∀ h', IsZ st h' z TI TO .none → Heap.SameBut z s.heap h' → Q () { s with heap := h' }) :
    wpAny (model prog w) A (letOwnedTupleGo (.Tuple elts x1 pos) (.ref z) (.ref T)) Q E s := by
  unfold letOwnedTupleGo
  refine wpAny_bind (wpAny_load hz ?_)
  show wpAny _ _ (if (["enumerate", "zip", "dict_itemiterator", "dict_reverseitemiterator", "odict_iterator", "itertools.zip_longest", "itertools.pairwise"].contains "zip" &&
      (#[rawInt T, .bool false, .bool st, .ref TI, .ref TO] : Array Value)[0]? == some (rawInt T)) = true then _ else _) Q E s
  rw [if_pos (by simp [rawInt])]
  refine wpAny_bind (wpAny_rule ?_)
  show wpAny _ _ (setField (.ref z) 0 .none) Q E s
  exact wpAny_setField_rec hz (by simp) fun h' hz' hs' => hQ h' hz' hs'
end
end Kb
namespace Kb
open PySem PySem.Spec PyProof.Rows L2
abbrev szT2 (h : Heap) (o1 o2 : Obj) : Heap := ((h.push o1).push o2).push { cls := .type "tuple", data := .seq #[.ref h.objs.size, .ref (h.push o1).objs.size] }
abbrev szO2 (h : Heap) (o1 o2 : Obj) : Heap := (szT2 h o1 o2).push { cls := .type "tuple", data := .seq #[.none, .none] }
abbrev szZ2 (h : Heap) (o1 o2 : Obj) : Heap := (szO2 h o1 o2).push { cls := .type "zip", data := .fields #[.none, .bool false, .bool true, .ref ((h.push o1).push o2).objs.size, .ref (szT2 h o1 o2).objs.size] }
theorem typeCall_zs2 (v1 v2 b : Value) : checkTypeCall "zip" ⟨[v1, v2], [(Str.ofString "strict", b)]⟩ = pure () := by kernel_rfl
theorem newCall_zs2 (v1 v2 b : Value) : checkBuiltinCall "zip.__new__" ⟨[.type "zip", v1, v2], [(Str.ofString "strict", b)]⟩ = pure () := by kernel_rfl
theorem args_zs2 (obj v1 v2 b : Value) : argsOk "object.__init__" ⟨[obj, v1, v2], [(Str.ofString "strict", b)]⟩ := by unfold argsOk; kernel_rfl
theorem meets_zs2 {v1 v2 : Value} {o1 o2 : Obj} {H1 H2 : Heap → Prop} (B1 : Begins v1 o1 H1) (B2 : Begins v2 o2 H2) :
    Meets (Builtin.«zip.__new__» ⟨[.type "zip", v1, v2], [(Str.ofString "strict", .bool true)]⟩) (fun _ R s => (H1 s.heap ∧ H2 s.heap) ∧
      R (.ok (.ret (.ref (szO2 s.heap o1 o2).objs.size))) { s with heap := szZ2 s.heap o1 o2 }) :=
  .of_wp fun prog w A R s h => by
    obtain ⟨hp, g, d, tk, os⟩ := s; obtain ⟨⟨h1, h2⟩, h⟩ := h
    have hsub := sub_zip
    have e1 : (Str.ofString "strict" != ("strict" : Str)) = false := by decide +kernel
    have e2 : (Str.ofString "strict" == ("strict" : Str)) = true := by decide +kernel
    have q1 : ∀ {A' : Around} {E : Value → Shared → Prop} {Q : Value → Shared → Prop}, Q (.ref hp.objs.size) ⟨(hp.push o1), g, d, tk, os⟩ → wpAny (model prog w) A' (pyIter v1) Q E ⟨hp, g, d, tk, os⟩ :=
      fun q => B1.iter prog w _ _ ⟨hp, g, d, tk, os⟩ _ (B1.keeps _ _ h1 fun b o' e => e) q
    have q2 : ∀ {A' : Around} {E : Value → Shared → Prop} {Q : Value → Shared → Prop}, Q (.ref (hp.push o1).objs.size) ⟨((hp.push o1).push o2), g, d, tk, os⟩ → wpAny (model prog w) A' (pyIter v2) Q E ⟨(hp.push o1), g, d, tk, os⟩ :=
      fun q => B2.iter prog w _ _ ⟨(hp.push o1), g, d, tk, os⟩ _ (B2.keeps _ _ h2 fun b o' e => (Heap.get?_push_of_some _ e)) q
    wp_walk using q1, q2
    exact ⟨_, rfl, h⟩
abbrev szT3 (h : Heap) (o1 o2 o3 : Obj) : Heap := (((h.push o1).push o2).push o3).push { cls := .type "tuple", data := .seq #[.ref h.objs.size, .ref (h.push o1).objs.size, .ref ((h.push o1).push o2).objs.size] }
abbrev szO3 (h : Heap) (o1 o2 o3 : Obj) : Heap := (szT3 h o1 o2 o3).push { cls := .type "tuple", data := .seq #[.none, .none, .none] }
abbrev szZ3 (h : Heap) (o1 o2 o3 : Obj) : Heap := (szO3 h o1 o2 o3).push { cls := .type "zip", data := .fields #[.none, .bool false, .bool true, .ref (((h.push o1).push o2).push o3).objs.size, .ref (szT3 h o1 o2 o3).objs.size] }
theorem typeCall_zs3 (v1 v2 v3 b : Value) : checkTypeCall "zip" ⟨[v1, v2, v3], [(Str.ofString "strict", b)]⟩ = pure () := by kernel_rfl
theorem newCall_zs3 (v1 v2 v3 b : Value) : checkBuiltinCall "zip.__new__" ⟨[.type "zip", v1, v2, v3], [(Str.ofString "strict", b)]⟩ = pure () := by kernel_rfl
theorem args_zs3 (obj v1 v2 v3 b : Value) : argsOk "object.__init__" ⟨[obj, v1, v2, v3], [(Str.ofString "strict", b)]⟩ := by unfold argsOk; kernel_rfl
theorem meets_zs3 {v1 v2 v3 : Value} {o1 o2 o3 : Obj} {H1 H2 H3 : Heap → Prop} (B1 : Begins v1 o1 H1) (B2 : Begins v2 o2 H2) (B3 : Begins v3 o3 H3) :
    Meets (Builtin.«zip.__new__» ⟨[.type "zip", v1, v2, v3], [(Str.ofString "strict", .bool true)]⟩) (fun _ R s => (H1 s.heap ∧ H2 s.heap ∧ H3 s.heap) ∧
      R (.ok (.ret (.ref (szO3 s.heap o1 o2 o3).objs.size))) { s with heap := szZ3 s.heap o1 o2 o3 }) :=
  .of_wp fun prog w A R s h => by
    obtain ⟨hp, g, d, tk, os⟩ := s; obtain ⟨⟨h1, h2, h3⟩, h⟩ := h
    have hsub := sub_zip
    have e1 : (Str.ofString "strict" != ("strict" : Str)) = false := by decide +kernel
    have e2 : (Str.ofString "strict" == ("strict" : Str)) = true := by decide +kernel
    have q1 : ∀ {A' : Around} {E : Value → Shared → Prop} {Q : Value → Shared → Prop}, Q (.ref hp.objs.size) ⟨(hp.push o1), g, d, tk, os⟩ → wpAny (model prog w) A' (pyIter v1) Q E ⟨hp, g, d, tk, os⟩ :=
      fun q => B1.iter prog w _ _ ⟨hp, g, d, tk, os⟩ _ (B1.keeps _ _ h1 fun b o' e => e) q
    have q2 : ∀ {A' : Around} {E : Value → Shared → Prop} {Q : Value → Shared → Prop}, Q (.ref (hp.push o1).objs.size) ⟨((hp.push o1).push o2), g, d, tk, os⟩ → wpAny (model prog w) A' (pyIter v2) Q E ⟨(hp.push o1), g, d, tk, os⟩ :=
      fun q => B2.iter prog w _ _ ⟨(hp.push o1), g, d, tk, os⟩ _ (B2.keeps _ _ h2 fun b o' e => (Heap.get?_push_of_some _ e)) q
    have q3 : ∀ {A' : Around} {E : Value → Shared → Prop} {Q : Value → Shared → Prop}, Q (.ref ((hp.push o1).push o2).objs.size) ⟨(((hp.push o1).push o2).push o3), g, d, tk, os⟩ → wpAny (model prog w) A' (pyIter v3) Q E ⟨((hp.push o1).push o2), g, d, tk, os⟩ :=
      fun q => B3.iter prog w _ _ ⟨((hp.push o1).push o2), g, d, tk, os⟩ _ (B3.keeps _ _ h3 fun b o' e => (Heap.get?_push_of_some _ (Heap.get?_push_of_some _ e))) q
    wp_walk using q1, q2, q3
    exact ⟨_, rfl, h⟩
section
variable {prog : Program} {w : World} {A : Around} {E : Value → Shared → Prop} {s : Shared}
theorem zs_begins2 {v1 v2 : Value} {o1 o2 : Obj} {H1 H2 : Heap → Prop} {Q : Value → Shared → Prop} (B1 : Begins v1 o1 H1) (B2 : Begins v2 o2 H2) (h1 : H1 s.heap) (h2 : H2 s.heap)
    (h : ∀ h', IsZ true h' (s.heap.objs.size + 4) (s.heap.objs.size + 2) (s.heap.objs.size + 3) .none → IsTp h' (s.heap.objs.size + 2) [.ref s.heap.objs.size, .ref (s.heap.objs.size + 1)] → IsTp h' (s.heap.objs.size + 3) [.none, .none] → h'.get? s.heap.objs.size = some o1 → h'.get? (s.heap.objs.size + 1) = some o2 → h'.objs.size = s.heap.objs.size + 5 →
      (∀ c o, s.heap.get? c = some o → h'.get? c = some o) → Q (.ref (s.heap.objs.size + 4)) { s with heap := h' }) :
    wpAny (model prog w) A (call (.type "zip") [v1, v2] [(Str.ofString "strict", .bool true)]) Q E s := by
  refine callType_newKw F.called_zip (by decide) (typeCall_zs2 _ _  _) (newCall_zs2 _ _  _) (fun obj => args_zs2 obj _ _  _) F.entry_zip_new (meets_zs2 B1 B2) ⟨⟨h1, h2⟩, ?_⟩
  have z1 : (s.heap.push o1).objs.size = s.heap.objs.size + 1 := by rw [Heap.size_push]
  have z2 : ((s.heap.push o1).push o2).objs.size = s.heap.objs.size + 2 := by rw [Heap.size_push, z1]
  have zT : (szT2 s.heap o1 o2).objs.size = s.heap.objs.size + 3 := by rw [Heap.size_push, z2]
  have zO : (szO2 s.heap o1 o2).objs.size = s.heap.objs.size + 4 := by rw [Heap.size_push, zT]
  have zZ : (szZ2 s.heap o1 o2).objs.size = s.heap.objs.size + 5 := by rw [Heap.size_push, zO]
  have gZ : (szZ2 s.heap o1 o2).get? (szO2 s.heap o1 o2).objs.size = some { cls := .type "zip", data := .fields #[.none, .bool false, .bool true, .ref ((s.heap.push o1).push o2).objs.size, .ref (szT2 s.heap o1 o2).objs.size] } := Heap.get?_push_size _ rfl
  have gO : (szZ2 s.heap o1 o2).get? (szT2 s.heap o1 o2).objs.size = some { cls := .type "tuple", data := .seq #[.none, .none] } := Heap.get?_push_of_some _ (Heap.get?_push_size _ rfl)
  have gT : (szZ2 s.heap o1 o2).get? ((s.heap.push o1).push o2).objs.size = some { cls := .type "tuple", data := .seq #[.ref s.heap.objs.size, .ref (s.heap.push o1).objs.size] } := Heap.get?_push_of_some _ (Heap.get?_push_of_some _ (Heap.get?_push_size _ rfl))
  have g1 : (szZ2 s.heap o1 o2).get? s.heap.objs.size = some o1 := (Heap.get?_push_of_some _ (Heap.get?_push_of_some _ (Heap.get?_push_of_some _ (Heap.get?_push_of_some _ (Heap.get?_push_size _ B1.free)))))
  have g2 : (szZ2 s.heap o1 o2).get? (s.heap.push o1).objs.size = some o2 := (Heap.get?_push_of_some _ (Heap.get?_push_of_some _ (Heap.get?_push_of_some _ (Heap.get?_push_size _ B2.free))))
  rw [zO, zT, z2] at gZ
  rw [zT] at gO
  rw [z2, z1] at gT
  rw [z1] at g2
  show _ ∧ _
  rw [zO]
  exact ⟨⟨_, gZ, rfl⟩, h _ gZ gT gO g1 g2 zZ fun c o e => (Heap.get?_push_of_some _ (Heap.get?_push_of_some _ (Heap.get?_push_of_some _ (Heap.get?_push_of_some _ (Heap.get?_push_of_some _ e)))))⟩
end
section
variable {prog : Program} {w : World} {A : Around} {E : Value → Shared → Prop} {s : Shared}
theorem zs_begins3 {v1 v2 v3 : Value} {o1 o2 o3 : Obj} {H1 H2 H3 : Heap → Prop} {Q : Value → Shared → Prop} (B1 : Begins v1 o1 H1) (B2 : Begins v2 o2 H2) (B3 : Begins v3 o3 H3) (h1 : H1 s.heap) (h2 : H2 s.heap) (h3 : H3 s.heap)
    (h : ∀ h', IsZ true h' (s.heap.objs.size + 5) (s.heap.objs.size + 3) (s.heap.objs.size + 4) .none → IsTp h' (s.heap.objs.size + 3) [.ref s.heap.objs.size, .ref (s.heap.objs.size + 1), .ref (s.heap.objs.size + 2)] → IsTp h' (s.heap.objs.size + 4) [.none, .none, .none] → h'.get? s.heap.objs.size = some o1 → h'.get? (s.heap.objs.size + 1) = some o2 → h'.get? (s.heap.objs.size + 2) = some o3 → h'.objs.size = s.heap.objs.size + 6 →
      (∀ c o, s.heap.get? c = some o → h'.get? c = some o) → Q (.ref (s.heap.objs.size + 5)) { s with heap := h' }) :
    wpAny (model prog w) A (call (.type "zip") [v1, v2, v3] [(Str.ofString "strict", .bool true)]) Q E s := by
  refine callType_newKw F.called_zip (by decide) (typeCall_zs3 _ _ _  _) (newCall_zs3 _ _ _  _) (fun obj => args_zs3 obj _ _ _  _) F.entry_zip_new (meets_zs3 B1 B2 B3) ⟨⟨h1, h2, h3⟩, ?_⟩
  have z1 : (s.heap.push o1).objs.size = s.heap.objs.size + 1 := by rw [Heap.size_push]
  have z2 : ((s.heap.push o1).push o2).objs.size = s.heap.objs.size + 2 := by rw [Heap.size_push, z1]
  have z3 : (((s.heap.push o1).push o2).push o3).objs.size = s.heap.objs.size + 3 := by rw [Heap.size_push, z2]
  have zT : (szT3 s.heap o1 o2 o3).objs.size = s.heap.objs.size + 4 := by rw [Heap.size_push, z3]
  have zO : (szO3 s.heap o1 o2 o3).objs.size = s.heap.objs.size + 5 := by rw [Heap.size_push, zT]
  have zZ : (szZ3 s.heap o1 o2 o3).objs.size = s.heap.objs.size + 6 := by rw [Heap.size_push, zO]
  have gZ : (szZ3 s.heap o1 o2 o3).get? (szO3 s.heap o1 o2 o3).objs.size = some { cls := .type "zip", data := .fields #[.none, .bool false, .bool true, .ref (((s.heap.push o1).push o2).push o3).objs.size, .ref (szT3 s.heap o1 o2 o3).objs.size] } := Heap.get?_push_size _ rfl
  have gO : (szZ3 s.heap o1 o2 o3).get? (szT3 s.heap o1 o2 o3).objs.size = some { cls := .type "tuple", data := .seq #[.none, .none, .none] } := Heap.get?_push_of_some _ (Heap.get?_push_size _ rfl)
  have gT : (szZ3 s.heap o1 o2 o3).get? (((s.heap.push o1).push o2).push o3).objs.size = some { cls := .type "tuple", data := .seq #[.ref s.heap.objs.size, .ref (s.heap.push o1).objs.size, .ref ((s.heap.push o1).push o2).objs.size] } := Heap.get?_push_of_some _ (Heap.get?_push_of_some _ (Heap.get?_push_size _ rfl))
  have g1 : (szZ3 s.heap o1 o2 o3).get? s.heap.objs.size = some o1 := (Heap.get?_push_of_some _ (Heap.get?_push_of_some _ (Heap.get?_push_of_some _ (Heap.get?_push_of_some _ (Heap.get?_push_of_some _ (Heap.get?_push_size _ B1.free))))))
  have g2 : (szZ3 s.heap o1 o2 o3).get? (s.heap.push o1).objs.size = some o2 := (Heap.get?_push_of_some _ (Heap.get?_push_of_some _ (Heap.get?_push_of_some _ (Heap.get?_push_of_some _ (Heap.get?_push_size _ B2.free)))))
  have g3 : (szZ3 s.heap o1 o2 o3).get? ((s.heap.push o1).push o2).objs.size = some o3 := (Heap.get?_push_of_some _ (Heap.get?_push_of_some _ (Heap.get?_push_of_some _ (Heap.get?_push_size _ B3.free))))
  rw [zO, zT, z3] at gZ
  rw [zT] at gO
  rw [z3, z2, z1] at gT
  rw [z1] at g2
  rw [z2] at g3
  show _ ∧ _
  rw [zO]
  exact ⟨⟨_, gZ, rfl⟩, h _ gZ gT gO g1 g2 g3 zZ fun c o e => (Heap.get?_push_of_some _ (Heap.get?_push_of_some _ (Heap.get?_push_of_some _ (Heap.get?_push_of_some _ (Heap.get?_push_of_some _ (Heap.get?_push_of_some _ e))))))⟩
end
end Kb
namespace Kb
open PySem PySem.Spec PyProof.Rows L2
def SqB (K : PySem.W.Frag) (H : Hp) (p : Addr × Bool) (vs : List V) : Prop := match p.2 with
  | true => SqT K H p.1 vs
  | false => SqL K H p.1 vs
def Iz (K : PySem.W.Frag) (ps : List (Addr × Bool)) : It :=
  ⟨fun i H => ∃ us : List V, us.length = ps.length ∧ ∀ (j : Nat) p u, ps[j]? = some p → us[j]? = some u → ∃ vs, SqB K H p vs ∧ vs[i]? = some u,
    fun i H v H' => ∃ T us, v = .ref T ∧ H T = none ∧ H' = upd H T (.tup us) ∧ us.length = ps.length ∧ ∀ (j : Nat) p u, ps[j]? = some p → us[j]? = some u → ∀ vs, SqB K H p vs → vs[i]? = some u,
    fun i H => ∀ p ∈ ps, ∃ vs, SqB K H p vs ∧ vs.length ≤ i⟩
section
variable {X : Cx}
theorem sqB_src {pins : List (Addr × Obj)} {σ : L2.St} {H : Hp} {s : Shared} {x : Zs} {vs : List V} (I : Inv X pins σ H s) (h : SqB X.K H (x.a, x.t) vs) : ∃ its : List Value, Vals vs its ∧ x.src s.heap its.toArray := by
  obtain ⟨it, a, t⟩ := x
  cases t with
  | true =>
    obtain ⟨its, rv, p, _⟩ := I.tuple h
    exact ⟨its, rv, show s.heap.IsTuple a its.toArray from p⟩
  | false =>
    obtain ⟨its, rv, p, _⟩ := I.list h
    exact ⟨its, rv, p.isList⟩
theorem sqB_inj {pins : List (Addr × Obj)} {σ : L2.St} {H : Hp} {s : Shared} {p : Addr × Bool} {vs us : List V} (I : Inv X pins σ H s) (h : SqB X.K H p vs) (h' : SqB X.K H p us) : vs = us := by
  obtain ⟨a, t⟩ := p
  cases t with
  | true => exact I.tuple_inj h h'
  | false => exact I.list_inj h h'
theorem vals_of {P : Nat → V → Value → Prop} : ∀ (us : List V), (∀ (j : Nat) u, us[j]? = some u → ∃ w, RelV u w ∧ P j u w) → ∃ ws : List Value, Vals us ws ∧ ws.length = us.length ∧ ∀ (j : Nat) u w, us[j]? = some u → ws[j]? = some w → P j u w
  | [], _ => ⟨[], .nil, rfl, fun j u w e => by simp at e⟩
  | u :: us, h => by
    obtain ⟨w, r, p⟩ := h 0 u rfl
    obtain ⟨ws, rs, l, ps⟩ := vals_of (P := fun j => P (j + 1)) us fun j u e => h (j + 1) u (by simpa using e)
    refine ⟨w :: ws, .cons r rs, by simp [l], fun j u' w' e1 e2 => ?_⟩
    cases j with
    | zero => cases e1; cases e2; exact p
    | succ j => exact ps j u' w' (by simpa using e1) (by simpa using e2)
theorem turn_z {P : Program} {w : World} {K : PySem.W.Frag} {elts : List Expr} {kk : Nat} {tpos : Pos} {st : Bool} {z TI TO : Addr} {xs : List Zs} (S : ZSep z TI TO xs) (hn : xs.length ≤ 10) :
    Turn P w K (.Tuple elts kk tpos) (Iz K (xs.map fun x => (x.a, x.t))) (z :: TI :: TO :: xs.map (·.it)) z (fun i h => IsZ st h z TI TO .none ∧ IsTp h TI (xs.map fun x => .ref x.it) ∧ (∃ olds, olds.length = xs.length ∧ IsTp h TO olds) ∧ ∀ x ∈ xs, x.at i h) where
  mem := List.mem_cons_self
  obj := fun i h st c hc => by
    obtain ⟨hz, hTI, ⟨olds, _, hTO⟩, hat⟩ := st
    rcases List.mem_cons.mp hc with q | hc
    · rw [q]; exact ⟨_, hz, fun v q => nomatch q⟩
    rcases List.mem_cons.mp hc with q | hc
    · rw [q]; exact ⟨_, hTI, fun v q => nomatch q⟩
    rcases List.mem_cons.mp hc with q | hc
    · rw [q]; exact ⟨_, hTO, fun v q => nomatch q⟩
    obtain ⟨x, hx, q⟩ := List.mem_map.mp hc
    subst q
    exact Zs.at_live (hat x hx)
  keep := fun i h h' st k => by
    obtain ⟨hz, hTI, ⟨olds, l, hTO⟩, hat⟩ := st
    refine ⟨k z List.mem_cons_self _ hz, k TI (by simp) _ hTI, ⟨olds, l, k TO (by simp) _ hTO⟩, fun x hx => Zs.at_more (hat x hx) fun o e => k x.it ?_ o e⟩
    exact List.mem_cons_of_mem _ (List.mem_cons_of_mem _ (List.mem_cons_of_mem _ (List.mem_map_of_mem (f := fun x : Zs => x.it) hx)))
  item := by
    intro X hP hw hK hc i pins s σ H E I hf st hg
    subst hP hw hK
    obtain ⟨hz, hTI, ⟨olds, hl, hTO⟩, hat⟩ := st
    obtain ⟨us, hul, hus⟩ := hg
    rw [List.length_map] at hul
    obtain ⟨ws, rv, hwl, hws⟩ := vals_of (P := fun j u w => ∀ x, xs[j]? = some x → ∃ its, x.src s.heap its ∧ its[i]? = some w) us fun j u e => by
      have hj : j < xs.length := by have := (List.getElem?_eq_some_iff.mp e).1; omega
      have ex : xs[j]? = some xs[j] := List.getElem?_eq_getElem hj
      obtain ⟨vs, q1, q2⟩ := hus j _ u (by rw [List.getElem?_map, ex]; rfl) e
      obtain ⟨its, r1, r2⟩ := sqB_src I q1
      obtain ⟨w', e1, e2⟩ := r1.get q2
      refine ⟨w', e2, fun x ex' => ?_⟩
      rw [ex] at ex'
      cases ex'
      exact ⟨_, r2, by simpa using e1⟩
    have hzl : z < s.heap.objs.size := Heap.lt_size hz
    refine pyNext_z (us := ws) S hz hTI hTO hl (by omega) hat (fun j x w e1 e2 => ?_) hn fun h' z' TO' hat' hT hsz hk => ?_
    · have hj : j < us.length := by have := (List.getElem?_eq_some_iff.mp e1).1; omega
      exact hws j _ w (List.getElem?_eq_getElem hj) e2 x e1
    refine ⟨_, rfl, letGo_z (s := { s with heap := h' }) z' fun h'' z'' sb => ?_⟩
    have hT2 : h''.get? s.heap.objs.size = some { cls := .type "tuple", data := .seq ws.toArray } := (sb.2 _ (Nat.ne_of_gt hzl)).trans hT
    have new : ObjOk X.prog X.w (upd H s.heap.objs.size (.tup us)) h'' s.heap.objs.size (.tup us) :=
      ⟨Nat.le_trans (by omega : us.length ≤ 10) (by decide), ws, rv, ⟨_, hT2, rfl, _, rfl⟩⟩
    have I1 : Inv X pins σ (upd H s.heap.objs.size (.tup us)) { s with heap := h'' } :=
      I.turnedNew (t' := s.toks) (ch := z :: TI :: TO :: xs.map (·.it)) (fun c o hb q => (sb.2 c (fun q' => hb (by simp [q']))).trans (hk c o (fun q' => hb (by simp [q'])) (fun q' => hb (by simp [q'])) (fun x hx q' => hb (by rw [q']; exact List.mem_cons_of_mem _ (List.mem_cons_of_mem _ (List.mem_cons_of_mem _ (List.mem_map_of_mem (f := fun x : Zs => x.it) hx))))) q)) hf (Nat.le_refl _) new
    refine ⟨.ref s.heap.objs.size, _, I1, rfl, ⟨_, us, rfl, I.hok.fresh (Nat.le_refl _), rfl, by rw [List.length_map]; exact hul, fun j p u e1 e2 vs hv => ?_⟩, ⟨z'', ?_, ⟨ws, by omega, ?_⟩, fun x hx => ?_⟩, fun c hcm => ?_⟩
    · obtain ⟨vs', q1, q2⟩ := hus j p u e1 e2
      rw [sqB_inj I hv q1]
      exact q2
    · exact (sb.2 _ S.TIz).trans (hk _ _ S.TIz S.TITO (fun x hx => (S.itz x hx).2.1.symm) hTI)
    · exact (sb.2 _ S.TOz).trans TO'
    · exact Zs.at_more (hat' x hx) fun o e => (sb.2 _ (S.itz x hx).1).trans e
    · have hlt : c < s.heap.objs.size := by
        rcases List.mem_cons.mp hcm with q | hc
        · rw [q]; exact hzl
        rcases List.mem_cons.mp hc with q | hc
        · rw [q]; exact Heap.lt_size hTI
        rcases List.mem_cons.mp hc with q | hc
        · rw [q]; exact Heap.lt_size hTO
        obtain ⟨x, hx, q⟩ := List.mem_map.mp hc
        subst q
        obtain ⟨o, e, _⟩ := Zs.at_live (hat x hx)
        exact Heap.lt_size e
      rw [upd_ne (Nat.ne_of_lt hlt)]
      exact (hf c hcm).1
  done := by
    intro X hP hw hK hc i pins s σ H E I hf st hg
    subst hP hw hK
    obtain ⟨hz, hTI, ⟨olds, hl, hTO⟩, hat⟩ := st
    refine pyNext_zE (I.ok.hd hc) S hz hTI hTO hat (fun x hx => ?_) fun h' hk => ⟨rfl, I.turnedL (t' := s.toks) (ch := z :: TI :: TO :: xs.map (·.it)) (fun c o hb q =>
      hk c o (fun q' => hb (by simp [q'])) (fun q' => hb (by simp [q'])) (fun x hx q' => hb (by rw [q']; exact List.mem_cons_of_mem _ (List.mem_cons_of_mem _ (List.mem_cons_of_mem _ (List.mem_map_of_mem (f := fun x : Zs => x.it) hx))))) q) hf⟩
    obtain ⟨vs, q1, q2⟩ := hg (x.a, x.t) (List.mem_map_of_mem (f := fun x : Zs => (x.a, x.t)) hx)
    obtain ⟨its, r1, r2⟩ := sqB_src I q1
    have l1 := r1.length
    exact ⟨_, r2, by simp; omega⟩
  self := fun A i s Q E st h => pyIter_z st.1 h
/-- a zip has come: its cells at n, .. -/
theorem z_begun {pins : List (Addr × Obj)} {σ : L2.St} {H : Hp} {s : Shared} {h' : Heap} {elts : List Expr} {kk : Nat} {tpos : Pos} {st : Bool} {xs : List Zs} {R : It → Hp → Prop} (I : Inv X pins σ H s) (hne : xs ≠ []) (hn : xs.length ≤ 10) (hit : ∀ (j : Nat) x, xs[j]? = some x → @Eq Nat x.it (s.heap.objs.size + j))
    (hsq : ∀ x ∈ xs, ∃ vs, SqB X.K H (x.a, x.t) vs) (hz : IsZ st h' (s.heap.objs.size + (xs.length + 2)) (s.heap.objs.size + xs.length) (s.heap.objs.size + (xs.length + 1)) .none) (hTI : IsTp h' (s.heap.objs.size + xs.length) (xs.map fun x => .ref x.it))
    (hTO : ∃ olds, olds.length = xs.length ∧ IsTp h' (s.heap.objs.size + (xs.length + 1)) olds) (hat : ∀ x ∈ xs, x.at 0 h') (hk : ∀ c o, s.heap.get? c = some o → h'.get? c = some o) (q : R (Iz X.K (xs.map fun x => (x.a, x.t))) H) :
    wpAny (model X.prog X.w) X.A (pyIter (.ref (s.heap.objs.size + (xs.length + 2)))) (PIE X pins σ (.Tuple elts kk tpos) R) X.xe { s with heap := h' } := by
  refine pyIter_z hz ?_
  have alt : ∀ x ∈ xs, @LT.lt Nat _ x.a s.heap.objs.size := fun x hx => by
    obtain ⟨vs, e⟩ := hsq x hx
    obtain ⟨its, _, r2⟩ := sqB_src I e
    obtain ⟨it, a, t⟩ := x
    cases t with
    | true =>
      obtain ⟨o, e, _⟩ := r2
      exact Heap.lt_size e
    | false =>
      obtain ⟨o, e, _⟩ := r2
      exact Heap.lt_size e
  have itn : ∀ x ∈ xs, ∃ j : Nat, j < xs.length ∧ @Eq Nat x.it (s.heap.objs.size + j) := fun x hx => by
    obtain ⟨j, e⟩ := List.mem_iff_getElem?.mp hx
    exact ⟨j, (List.getElem?_eq_some_iff.mp e).1, hit j x e⟩
  have S : ZSep (s.heap.objs.size + (xs.length + 2)) (s.heap.objs.size + xs.length) (s.heap.objs.size + (xs.length + 1)) xs := by
    have nq : ∀ {a b : Nat}, a ≠ b → ¬ (show Addr from a) = (show Addr from b) := fun h e => h e
    refine ⟨nq (by omega), nq (by omega), nq (by omega), fun x hx => ?_, fun x hx => ?_, fun x hx y hy => ?_, ?_, hne⟩
    · obtain ⟨j, h1, h2⟩ := itn x hx
      exact ⟨nq (a := x.it) (by omega), nq (a := x.it) (by omega), nq (a := x.it) (by omega)⟩
    · have := alt x hx
      exact ⟨nq (a := x.a) (by omega), nq (a := x.a) (by omega)⟩
    · have := alt x hx
      obtain ⟨j, h1, h2⟩ := itn y hy
      exact nq (a := x.a) (b := y.it) (by omega)
    · refine List.pairwise_map.mpr (List.pairwise_iff_getElem.mpr fun i j hi hj hij e => ?_)
      have e1 := hit i _ (List.getElem?_eq_getElem hi)
      have e2 := hit j _ (List.getElem?_eq_getElem hj)
      have e3 : @Eq Nat (xs[i]).it (xs[j]).it := e
      omega
  refine ⟨_, _, _, _, H, rfl, I.kept (t' := s.toks) hk, turn_z (st := st) S hn, ⟨hz, hTI, hTO, hat⟩, fun c hcm => ?_, q⟩
  have hle : s.heap.objs.size ≤ c := by
    rcases List.mem_cons.mp hcm with q | hc
    · rw [q]; exact Nat.le_add_right _ _
    rcases List.mem_cons.mp hc with q | hc
    · rw [q]; exact Nat.le_add_right _ _
    rcases List.mem_cons.mp hc with q | hc
    · rw [q]; exact Nat.le_add_right _ _
    obtain ⟨x, hx, q⟩ := List.mem_map.mp hc
    obtain ⟨j, h1, h2⟩ := itn x hx
    rw [← q]
    show @LE.le Nat _ s.heap.objs.size x.it
    omega
  exact I.fpOk hle (I.hok.fresh hle)
end
end Kb
namespace Kb
open PySem PySem.Spec PyProof.Rows L2
def itO : Addr × Bool → Obj
  | (a, true) => { cls := .type "tuple_iterator", data := .fields #[.ref a, .int 0 0] }
  | (a, false) => { cls := .type "list_iterator", data := .fields #[.ref a, .int 0 0] }
theorem itO_at {h : Heap} {it : Addr} : ∀ {p : Addr × Bool}, h.get? it = some (itO p) → Zs.at ⟨it, p.1, p.2⟩ 0 h
  | (a, true), e => ⟨_, e, rfl, rfl⟩
  | (a, false), e => ⟨_, e, rfl, rfl⟩
theorem sq_begins {X : Cx} {pins : List (Addr × Obj)} {σ : L2.St} {H : Hp} {s : Shared} {vs : List V} (I : Inv X pins σ H s) : ∀ {p : Addr × Bool}, SqB X.K H p vs → ∃ P : Heap → Prop, Begins (.ref p.1) (itO p) P ∧ P s.heap
  | (a, true), e => by
    obtain ⟨its, r1, r2⟩ := sqB_src (x := ⟨a, a, true⟩) I e
    exact ⟨_, begins_tuple a its.toArray, r2⟩
  | (a, false), e => by
    obtain ⟨its, r1, r2⟩ := sqB_src (x := ⟨a, a, false⟩) I e
    exact ⟨_, begins_list a its.toArray, r2⟩
theorem callWith_type_kw {M : Model} {A : Around} {E : Value → Shared → Prop} {s : Shared} {pos : Pos} {T : String} {args : List (Bool × Sem Value)} {keywords : List (Option Str × Sem Value)} {Q : Value → Shared → Prop}
    (hplain : args.any (·.1) = false) (hkw : keywords.any (·.1.isNone) = false)
    (h : wpAny M A (evalArgs (.type T) true args keywords) (fun a s₁ => wpAny M A (call (.type T) a.pos a.kw) Q E s₁) E s) :
    wpAny M A (callWith pos (.type T) [] args keywords) Q E s := by
  unfold callWith
  refine wpAny_bind (wpAny_holding (wpAny_mono h (fun a s₁ h₁ => wpAny_bind (wpAny_standAt ?_)) fun _ _ x => x))
  simp only [hplain, hkw, Bool.or_false]
  refine wpAny_bind (wpAny_pure ?_)
  exact wpAny_bind (wpAny_mono h₁ (fun r s₂ hr => wpAny_bind (wpAny_holding (wpAny_point (wpAny_pure hr)))) fun _ _ x => x)
def iZ (K : PySem.W.Frag) (ta : TA) : TI := fun σ H R => ta σ H fun vs H1 => ∃ ps : List (Addr × Bool), vs = ps.map (fun p => V.ref p.1) ∧ (∀ p ∈ ps, ∃ xs, SqB K H1 p xs) ∧ R (Iz K ps) H1
section
variable {X : Cx} {e e2 e3 : Expr} {ta : TA} {p pos tpos kp cp : Pos} {elts : List Expr} {kk kc : Nat}
theorem z_arr2 {a b : Value} : (#[a, b] : Array Value) = [a, b].toArray := rfl
theorem run_z2 {pins : List (Addr × Obj)} {σ : L2.St} {H : Hp} {s : Shared} {R : It → Hp → Prop} {vs : List V} {us : List Value} (st : Bool) (I : Inv X pins σ H s) (r : Vals vs us) {ps : List (Addr × Bool)} (hp : ps.length = 2) (ev : vs = ps.map (fun p => V.ref p.1)) (hs : ∀ p ∈ ps, ∃ xs, SqB X.K H p xs) (q : R (Iz X.K ps) H) :
    wpAny (model X.prog X.w) X.A (call (.type "zip") us (if st then [(Str.ofString "strict", .bool true)] else [])) (fun v s1 => wpAny (model X.prog X.w) X.A (pyIter v) (PIE X pins σ (.Tuple elts kk tpos) R) X.xe s1) X.xe s := by
  match ps, hp with
  | [p1, p2], _ =>
    subst ev
    cases r with
    | cons r1 rr =>
    cases rr with
    | cons r2 rr =>
    cases rr
    cases r1
    cases r2
    obtain ⟨v1, h1⟩ := hs p1 (by simp)
    obtain ⟨v2, h2⟩ := hs p2 (by simp)
    obtain ⟨P1, B1, q1⟩ := sq_begins I h1
    obtain ⟨P2, B2, q2⟩ := sq_begins I h2
    have fin : ∀ h', IsZ st h' (s.heap.objs.size + 4) (s.heap.objs.size + 2) (s.heap.objs.size + 3) .none → IsTp h' (s.heap.objs.size + 2) [.ref s.heap.objs.size, .ref (s.heap.objs.size + 1)] → IsTp h' (s.heap.objs.size + 3) [.none, .none] → h'.get? s.heap.objs.size = some (itO p1) → h'.get? (s.heap.objs.size + 1) = some (itO p2) → h'.objs.size = s.heap.objs.size + 5 →
        (∀ c o, s.heap.get? c = some o → h'.get? c = some o) → wpAny (model X.prog X.w) X.A (pyIter (.ref (s.heap.objs.size + 4))) (PIE X pins σ (.Tuple elts kk tpos) R) X.xe { s with heap := h' } := fun h' a1 a2 a3 a4 a5 _ a7 =>
      z_begun (st := st) (xs := [⟨s.heap.objs.size, p1.1, p1.2⟩, ⟨s.heap.objs.size + 1, p2.1, p2.2⟩]) I (by simp) (by simp) (fun j x e => by
        match j, e with
        | 0, e => cases e; rfl
        | 1, e => cases e; rfl
        | j + 2, e => cases e) (fun x hx => by
        simp only [List.mem_cons, List.not_mem_nil, or_false] at hx
        rcases hx with rfl | rfl
        · exact ⟨v1, h1⟩
        · exact ⟨v2, h2⟩) a1 a2 ⟨_, rfl, a3⟩ (fun x hx => by
        simp only [List.mem_cons, List.not_mem_nil, or_false] at hx
        rcases hx with rfl | rfl
        · exact itO_at a4
        · exact itO_at a5) a7 q
    cases st with
    | true => exact zs_begins2 B1 B2 q1 q2 fin
    | false => exact zip_begins2 B1 B2 q1 q2 fin
theorem run_z3 {pins : List (Addr × Obj)} {σ : L2.St} {H : Hp} {s : Shared} {R : It → Hp → Prop} {vs : List V} {us : List Value} (st : Bool) (I : Inv X pins σ H s) (r : Vals vs us) {ps : List (Addr × Bool)} (hp : ps.length = 3) (ev : vs = ps.map (fun p => V.ref p.1)) (hs : ∀ p ∈ ps, ∃ xs, SqB X.K H p xs) (q : R (Iz X.K ps) H) :
    wpAny (model X.prog X.w) X.A (call (.type "zip") us (if st then [(Str.ofString "strict", .bool true)] else [])) (fun v s1 => wpAny (model X.prog X.w) X.A (pyIter v) (PIE X pins σ (.Tuple elts kk tpos) R) X.xe s1) X.xe s := by
  match ps, hp with
  | [p1, p2, p3], _ =>
    subst ev
    cases r with
    | cons r1 rr =>
    cases rr with
    | cons r2 rr =>
    cases rr with
    | cons r3 rr =>
    cases rr
    cases r1
    cases r2
    cases r3
    obtain ⟨v1, h1⟩ := hs p1 (by simp)
    obtain ⟨v2, h2⟩ := hs p2 (by simp)
    obtain ⟨v3, h3⟩ := hs p3 (by simp)
    obtain ⟨P1, B1, q1⟩ := sq_begins I h1
    obtain ⟨P2, B2, q2⟩ := sq_begins I h2
    obtain ⟨P3, B3, q3⟩ := sq_begins I h3
    have fin : ∀ h', IsZ st h' (s.heap.objs.size + 5) (s.heap.objs.size + 3) (s.heap.objs.size + 4) .none → IsTp h' (s.heap.objs.size + 3) [.ref s.heap.objs.size, .ref (s.heap.objs.size + 1), .ref (s.heap.objs.size + 2)] → IsTp h' (s.heap.objs.size + 4) [.none, .none, .none] → h'.get? s.heap.objs.size = some (itO p1) → h'.get? (s.heap.objs.size + 1) = some (itO p2) → h'.get? (s.heap.objs.size + 2) = some (itO p3) → h'.objs.size = s.heap.objs.size + 6 →
        (∀ c o, s.heap.get? c = some o → h'.get? c = some o) → wpAny (model X.prog X.w) X.A (pyIter (.ref (s.heap.objs.size + 5))) (PIE X pins σ (.Tuple elts kk tpos) R) X.xe { s with heap := h' } := fun h' a1 a2 a3 a4 a5 a6 _ a7 =>
      z_begun (st := st) (xs := [⟨s.heap.objs.size, p1.1, p1.2⟩, ⟨s.heap.objs.size + 1, p2.1, p2.2⟩, ⟨s.heap.objs.size + 2, p3.1, p3.2⟩]) I (by simp) (by simp) (fun j x e => by
        match j, e with
        | 0, e => cases e; rfl
        | 1, e => cases e; rfl
        | 2, e => cases e; rfl
        | j + 3, e => cases e) (fun x hx => by
        simp only [List.mem_cons, List.not_mem_nil, or_false] at hx
        rcases hx with rfl | rfl | rfl
        · exact ⟨v1, h1⟩
        · exact ⟨v2, h2⟩
        · exact ⟨v3, h3⟩) a1 a2 ⟨_, rfl, a3⟩ (fun x hx => by
        simp only [List.mem_cons, List.not_mem_nil, or_false] at hx
        rcases hx with rfl | rfl | rfl
        · exact itO_at a4
        · exact itO_at a5
        · exact itO_at a6) a7 q
    cases st with
    | true => exact zs_begins3 B1 B2 B3 q1 q2 q3 fin
    | false => exact zip_begins3 B1 B2 B3 q1 q2 q3 fin
/-- zip(e, ..), two or three -/
theorem pi_zn {es : List Expr} (h23 : es.length = 1 ∨ es.length = 2) (hg : Gl X "zip") (hm : X.mg "zip" = none) (ha : PA X (e :: es) ta) (hlen : ∀ {vs : List V} {us : List Value} {ps : List (Addr × Bool)}, Vals vs us → vs = ps.map (fun p => V.ref p.1) → True)
    (hs : starEach (e :: es) X.env = (false, eval e X.env) :: starEach es X.env := by rfl) (hpl : (backTo pos (starEach es X.env)).any (·.1) = false := by rfl) :
    PI X (.Tuple elts kk tpos) (.Call (.Name "zip" p) (e :: es) [] pos) (fun σ H R => ta σ H fun vs H1 => ∃ ps : List (Addr × Bool), ps.length = es.length + 1 ∧ vs = ps.map (fun p => V.ref p.1) ∧ (∀ p ∈ ps, ∃ xs, SqB X.K H1 p xs) ∧ R (Iz X.K ps) H1) := by
  refine ⟨fun pins s σ H R I h => ?_⟩
  refine Call_ (ld_blt I hg hm PyProof.Rows.boot_zip (PyProof.Rows.callWith_type1 (thn (ha.run pos pins s σ H _ I h) fun us s1 ⟨vs, H1, I1, r1, q1⟩ => ?_) hs hpl))
  obtain ⟨ps, hpl, ev, hsq, q⟩ := q1
  rcases h23 with z | z
  · exact run_z2 false I1 r1 (by omega) ev hsq q
  · exact run_z3 false I1 r1 (by omega) ev hsq q
/-- zip(e, .., strict=True) -/
theorem pi_zs {es : List Expr} (h23 : es.length = 1 ∨ es.length = 2) (hg : Gl X "zip") (hm : X.mg "zip" = none) (ha : PA X (e :: es) ta)
    (he : backTo pos (starEach (e :: es) X.env) = (false, eval e X.env) :: backTo pos (starEach es X.env) := by rfl) (hpl : (backTo pos (starEach (e :: es) X.env)).any (·.1) = false := by rfl) :
    PI X (.Tuple elts kk tpos) (.Call (.Name "zip" p) (e :: es) [⟨some "strict", .Constant (.bool true) kc cp, kp⟩] pos) (fun σ H R => ta σ H fun vs H1 => ∃ ps : List (Addr × Bool), ps.length = es.length + 1 ∧ vs = ps.map (fun p => V.ref p.1) ∧ (∀ p ∈ ps, ∃ xs, SqB X.K H1 p xs) ∧ R (Iz X.K ps) H1) := by
  refine ⟨fun pins s σ H R I h => ?_⟩
  refine wpAny_Call_Name_kw (ld_blt I hg hm PyProof.Rows.boot_zip ?_ (by decide) (by decide))
  refine callWith_type_kw hpl rfl ?_
  have h1 := ha.run pos pins s σ H _ I h
  rw [he] at h1 ⊢
  refine evalArgs_kwB rfl (thn h1 fun us s1 ⟨vs, H1, I1, r1, q1⟩ => ?_)
  obtain ⟨ps, hpl, ev, hsq, q⟩ := q1
  refine kws_cons (Constant_bool (kws_nil ?_))
  rcases h23 with z | z
  · exact run_z2 true I1 r1 (by omega) ev hsq q
  · exact run_z3 true I1 r1 (by omega) ev hsq q
end
end Kb
/-! more rules over data: zip, .. -/
namespace Kb
open PySem PySem.Spec PyProof.Rows L2
/-- what stands at p: xs -/
def PzOk (M : Mu) (H : Hp) (p : Addr × Bool) (xs : List Dat) : Prop := ∃ us, ¬ M p.1 ∧ H p.1 = some (match p.2 with
  | true => .tup us
  | false => .lst us) ∧ Ats M H xs us
theorem PzOk.sq {K : PySem.W.Frag} {M : Mu} {H : Hp} {p : Addr × Bool} {xs : List Dat} (h : PzOk M H p xs) : ∃ us, SqB K H p us ∧ Ats M H xs us := by
  obtain ⟨us, _, h2, h3⟩ := h
  obtain ⟨a, t⟩ := p
  cases t with
  | true => exact ⟨us, SqT.of h2, h3⟩
  | false => exact ⟨us, SqL.of h2, h3⟩
theorem PzOk.shift {M1 M2 : Mu} {H1 H2 : Hp} {p : Addr × Bool} {xs : List Dat} (k : ∀ a o, ¬ M1 a → H1 a = some o → H2 a = some o) (m : ∀ a, M2 a → M1 a ∨ H1 a = none) (h : PzOk M1 H1 p xs) : PzOk M2 H2 p xs := by
  obtain ⟨us, h1, h2, h3⟩ := h
  exact ⟨us, fun z => (m _ z).elim h1 fun q => (by rw [q] at h2; cases h2), k _ _ h1 h2, h3.shift k m⟩
theorem sqd_pz {M : Mu} {H : Hp} {d : Dat} {xs : List Dat} {v : V} (h : seqD d xs) (a : At M H d v) : ∃ p : Addr × Bool, v = .ref p.1 ∧ PzOk M H p xs := by
  cases d with
  | lst l =>
    obtain rfl : l = xs := h
    obtain ⟨b, us, rfl, nb, hb, sb⟩ := at_lst a
    exact ⟨(b, false), rfl, us, nb, hb, sb⟩
  | tup l =>
    obtain rfl : l = xs := h
    obtain ⟨b, us, rfl, nb, hb, sb⟩ := at_tup a
    exact ⟨(b, true), rfl, us, nb, hb, sb⟩
  | _ => exact h.elim
theorem yl_z {K : PySem.W.Frag} {M1 : Mu} {H1 : Hp} {ps : List (Addr × Bool)} {zs : List Dat} (n : Nat) (hn : zs.length = n) (hl : ∀ p ∈ ps, ∃ xs : List Dat, xs.length = n ∧ PzOk M1 H1 p xs)
    (h : ∀ (i : Nat) z, zs[i]? = some z → ∃ ds, z = .tup ds ∧ ds.length = ps.length ∧ ∀ (j : Nat) p d, ps[j]? = some p → ds[j]? = some d → ∃ xs, PzOk M1 H1 p xs ∧ xs[i]? = some d) : Yl M1 H1 (Iz K ps) zs := fun H2 M2 k al m => by
  have inj : ∀ {p : Addr × Bool} {us vs : List V}, SqB K H2 p us → (∃ xs, PzOk M2 H2 p xs ∧ True) → SqB K H2 p vs → True := fun _ _ _ => trivial
  refine ⟨fun i z e => ?_, fun p hp => ?_⟩
  · obtain ⟨ds, rfl, hdl, hd⟩ := h i z e
    have got : ∀ (j : Nat) p d, ps[j]? = some p → ds[j]? = some d → ∃ us u, SqB K H2 p us ∧ us[i]? = some u ∧ At M2 H2 d u := fun j p d e1 e2 => by
      obtain ⟨xs, q1, q2⟩ := hd j p d e1 e2
      obtain ⟨us, r1, r2⟩ := (q1.shift k m).sq (K := K)
      obtain ⟨u, e3, e4⟩ := r2.get q2
      exact ⟨us, u, r1, e3, e4⟩
    refine ⟨?_, fun v H3 y => ?_⟩
    · have mk : ∀ (ps : List (Addr × Bool)) (ds : List Dat), ds.length = ps.length → (∀ (j : Nat) p d, ps[j]? = some p → ds[j]? = some d → ∃ us u, SqB K H2 p us ∧ us[i]? = some u ∧ At M2 H2 d u) → ∃ us : List V, us.length = ps.length ∧ ∀ (j : Nat) p u, ps[j]? = some p → us[j]? = some u → ∃ vs, SqB K H2 p vs ∧ vs[i]? = some u := by
        intro ps
        induction ps with
        | nil => exact fun _ _ _ => ⟨[], rfl, fun j p u e => by simp at e⟩
        | cons p ps ih =>
          intro ds hl hd
          cases ds with
          | nil => simp at hl
          | cons d ds =>
            obtain ⟨vs, u, r1, r2, _⟩ := hd 0 p d rfl rfl
            obtain ⟨us, l, hu⟩ := ih ds (by simpa using hl) fun j p d e1 e2 => hd (j + 1) p d (by simpa using e1) (by simpa using e2)
            refine ⟨u :: us, by simp [l], fun j p' u' e1 e2 => ?_⟩
            cases j with
            | zero => cases e1; cases e2; exact ⟨vs, r1, r2⟩
            | succ j => exact hu j p' u' (by simpa using e1) (by simpa using e2)
      exact mk ps ds hdl got
    · obtain ⟨T, us, rfl, hT, rfl, hul, hus⟩ := y
      refine ⟨same_new hT, At.tup (fun z => ?_) upd_same ?_⟩
      · obtain ⟨o, q⟩ := al T z
        rw [hT] at q
        cases q
      · refine Ats.of_get (by omega) fun j d u e1 e2 => ?_
        have hj : j < ps.length := by have := (List.getElem?_eq_some_iff.mp e1).1; omega
        obtain ⟨vs, u', r1, r2, r3⟩ := got j _ d (List.getElem?_eq_getElem hj) e1
        have := hus j _ u (List.getElem?_eq_getElem hj) e2 vs r1
        rw [r2] at this
        cases this
        exact r3.same (same_new hT)
  · obtain ⟨xs, hx, q⟩ := hl p hp
    obtain ⟨us, r1, r2⟩ := (q.shift k m).sq (K := K)
    exact ⟨us, r1, by rw [r2.len, hx, hn]; exact Nat.le_refl _⟩
section
variable {S : Sg} {g : Wd} {e a b c : Expr} {es elts : List Expr} {ρ : En} {n : Nat} {pos p tpos kp cp : Pos} {kk kc : Nat}
def zp2 (xs ys : List Dat) : List Dat := (xs.zip ys).map fun p => .tup [p.1, p.2]
def zp3 (xs ys ws : List Dat) : List Dat := (xs.zip (ys.zip ws)).map fun p => .tup [p.1, p.2.1, p.2.2]
theorem zp2_yl {K : PySem.W.Frag} {M : Mu} {H : Hp} {p1 p2 : Addr × Bool} {xs ys : List Dat} (h1 : PzOk M H p1 xs) (h2 : PzOk M H p2 ys) (hl : xs.length = ys.length) : Yl M H (Iz K [p1, p2]) (zp2 xs ys) := by
  refine yl_z xs.length (by unfold zp2; rw [List.length_map, List.length_zip]; omega) (fun p hp => ?_) fun i z e => ?_
  · simp only [List.mem_cons, List.not_mem_nil, or_false] at hp
    rcases hp with rfl | rfl
    · exact ⟨xs, rfl, h1⟩
    · exact ⟨ys, hl.symm, h2⟩
  · unfold zp2 at e
    rw [List.getElem?_map] at e
    cases q : (xs.zip ys)[i]? with
    | none => rw [q] at e; cases e
    | some w =>
      rw [q] at e
      cases e
      obtain ⟨q1, q2⟩ := List.getElem?_zip_eq_some.mp q
      refine ⟨_, rfl, rfl, fun j p d e1 e2 => ?_⟩
      match j with
      | 0 => cases e1; cases e2; exact ⟨xs, h1, q1⟩
      | 1 => cases e1; cases e2; exact ⟨ys, h2, q2⟩
      | j + 2 => cases e1
theorem zp3_yl {K : PySem.W.Frag} {M : Mu} {H : Hp} {p1 p2 p3 : Addr × Bool} {xs ys ws : List Dat} (h1 : PzOk M H p1 xs) (h2 : PzOk M H p2 ys) (h3 : PzOk M H p3 ws) (hl : xs.length = ys.length) (hl2 : xs.length = ws.length) : Yl M H (Iz K [p1, p2, p3]) (zp3 xs ys ws) := by
  refine yl_z xs.length (by unfold zp3; rw [List.length_map, List.length_zip, List.length_zip]; omega) (fun p hp => ?_) fun i z e => ?_
  · simp only [List.mem_cons, List.not_mem_nil, or_false] at hp
    rcases hp with rfl | rfl | rfl
    · exact ⟨xs, rfl, h1⟩
    · exact ⟨ys, hl.symm, h2⟩
    · exact ⟨ws, hl2.symm, h3⟩
  · unfold zp3 at e
    rw [List.getElem?_map] at e
    cases q : (xs.zip (ys.zip ws))[i]? with
    | none => rw [q] at e; cases e
    | some w =>
      rw [q] at e
      cases e
      obtain ⟨q1, q2⟩ := List.getElem?_zip_eq_some.mp q
      obtain ⟨q3, q4⟩ := List.getElem?_zip_eq_some.mp q2
      refine ⟨_, rfl, rfl, fun j p d e1 e2 => ?_⟩
      match j with
      | 0 => cases e1; cases e2; exact ⟨xs, h1, q1⟩
      | 1 => cases e1; cases e2; exact ⟨ys, h2, q3⟩
      | 2 => cases e1; cases e2; exact ⟨ws, h3, q4⟩
      | j + 3 => cases e1
theorem edi_of2 {x y : Dat} {xs ys : List Dat} {iter : Expr} (ha : EdA S g [a, b] ρ [x, y]) (hx : seqD x xs) (hy : seqD y ys) (hl : xs.length = ys.length)
    (hz : ∀ X, Cl S X → PI X (.Tuple elts kk tpos) iter (fun σ H R => wA S [a, b] σ H fun vs H1 => ∃ ps : List (Addr × Bool), ps.length = [b].length + 1 ∧ vs = ps.map (fun p => V.ref p.1) ∧ (∀ p ∈ ps, ∃ xs, SqB X.K H1 p xs) ∧ R (Iz X.K ps) H1)) : EdI S g (.Tuple elts kk tpos) iter ρ (zp2 xs ys) := fun n M Hb ad σ H E R q =>
  ⟨fun σ H R => wA S [a, b] σ H fun vs H1 => ∃ ps : List (Addr × Bool), ps.length = [b].length + 1 ∧ vs = ps.map (fun p => V.ref p.1) ∧ (∀ p ∈ ps, ∃ xs, SqB S.K H1 p xs) ∧ R (Iz S.K ps) H1, fun X c => by rw [← c.K]; exact hz X c, ha n M Hb ad σ H E _ fun n' vs H' ds k j a ⟨e1, e2⟩ => by
    subst e1 e2
    obtain ⟨v, w, rfl, a1, a2⟩ := ats2 a
    obtain ⟨p1, rfl, z1⟩ := sqd_pz hx a1
    obtain ⟨p2, rfl, z2⟩ := sqd_pz hy a2
    exact ⟨[p1, p2], rfl, rfl, fun p hp => by
      simp only [List.mem_cons, List.not_mem_nil, or_false] at hp
      rcases hp with rfl | rfl
      · exact ⟨_, z1.sq.choose_spec.1⟩
      · exact ⟨_, z2.sq.choose_spec.1⟩, q _ _ H' _ k j (zp2_yl z1 z2 hl) ⟨rfl, rfl⟩⟩⟩
theorem edi_of3 {x y z : Dat} {xs ys ws : List Dat} {iter : Expr} (ha : EdA S g [a, b, c] ρ [x, y, z]) (hx : seqD x xs) (hy : seqD y ys) (hw : seqD z ws) (hl : xs.length = ys.length) (hl2 : xs.length = ws.length)
    (hz : ∀ X, Cl S X → PI X (.Tuple elts kk tpos) iter (fun σ H R => wA S [a, b, c] σ H fun vs H1 => ∃ ps : List (Addr × Bool), ps.length = [b, c].length + 1 ∧ vs = ps.map (fun p => V.ref p.1) ∧ (∀ p ∈ ps, ∃ xs, SqB X.K H1 p xs) ∧ R (Iz X.K ps) H1)) : EdI S g (.Tuple elts kk tpos) iter ρ (zp3 xs ys ws) := fun n M Hb ad σ H E R q =>
  ⟨fun σ H R => wA S [a, b, c] σ H fun vs H1 => ∃ ps : List (Addr × Bool), ps.length = [b, c].length + 1 ∧ vs = ps.map (fun p => V.ref p.1) ∧ (∀ p ∈ ps, ∃ xs, SqB S.K H1 p xs) ∧ R (Iz S.K ps) H1, fun X c => by rw [← c.K]; exact hz X c, ha n M Hb ad σ H E _ fun n' vs H' ds k j a ⟨e1, e2⟩ => by
    subst e1 e2
    obtain ⟨v, r, rfl, a1, a2⟩ := a.cons_inv
    obtain ⟨w, u, rfl, a2, a3⟩ := ats2 a2
    obtain ⟨p1, rfl, z1⟩ := sqd_pz hx a1
    obtain ⟨p2, rfl, z2⟩ := sqd_pz hy a2
    obtain ⟨p3, rfl, z3⟩ := sqd_pz hw a3
    exact ⟨[p1, p2, p3], rfl, rfl, fun p hp => by
      simp only [List.mem_cons, List.not_mem_nil, or_false] at hp
      rcases hp with rfl | rfl | rfl
      · exact ⟨_, z1.sq.choose_spec.1⟩
      · exact ⟨_, z2.sq.choose_spec.1⟩
      · exact ⟨_, z3.sq.choose_spec.1⟩, q _ _ H' _ k j (zp3_yl z1 z2 z3 hl hl2) ⟨rfl, rfl⟩⟩⟩
theorem edi_zip2 {x y : Dat} {xs ys : List Dat} (hg : glB S.sc "zip" = true) (hm : S.mg "zip" = none) (h1 : Ed S g a ρ x) (h2 : Ed S g b ρ y) (hx : seqD x xs) (hy : seqD y ys) (hl : xs.length = ys.length)
    (hs : ∀ env, starEach [a, b] env = (false, eval a env) :: starEach [b] env := by intro _; rfl) (hs2 : ∀ env, starEach [b] env = (false, eval b env) :: starEach [] env := by intro _; rfl) (hpl : ∀ env, (backTo pos (starEach [b] env)).any (·.1) = false := by intro _; rfl) :
    EdI S g (.Tuple elts kk tpos) (.Call (.Name "zip" p) [a, b] [] pos) ρ (zp2 xs ys) :=
  edi_of2 (eda_cons h1 (eda_cons h2 eda_nil hs2) hs) hx hy hl fun X c => pi_zn (.inl rfl) (gl_of c hg) (by rw [c.mg]; exact hm) (wA_ok c) (fun _ _ => trivial) (hs _) (hpl _)
theorem edi_zips2 {x y : Dat} {xs ys : List Dat} (hg : glB S.sc "zip" = true) (hm : S.mg "zip" = none) (h1 : Ed S g a ρ x) (h2 : Ed S g b ρ y) (hx : seqD x xs) (hy : seqD y ys) (hl : xs.length = ys.length)
    (hs : ∀ env, starEach [a, b] env = (false, eval a env) :: starEach [b] env := by intro _; rfl) (hs2 : ∀ env, starEach [b] env = (false, eval b env) :: starEach [] env := by intro _; rfl) (he : ∀ env, backTo pos (starEach [a, b] env) = (false, eval a env) :: backTo pos (starEach [b] env) := by intro _; rfl) (hpl : ∀ env, (backTo pos (starEach [a, b] env)).any (·.1) = false := by intro _; rfl) :
    EdI S g (.Tuple elts kk tpos) (.Call (.Name "zip" p) [a, b] [⟨some "strict", .Constant (.bool true) kc cp, kp⟩] pos) ρ (zp2 xs ys) :=
  edi_of2 (eda_cons h1 (eda_cons h2 eda_nil hs2) hs) hx hy hl fun X c => pi_zs (.inl rfl) (gl_of c hg) (by rw [c.mg]; exact hm) (wA_ok c) (he _) (hpl _)
theorem edi_zip3 {x y z : Dat} {xs ys ws : List Dat} (hg : glB S.sc "zip" = true) (hm : S.mg "zip" = none) (h1 : Ed S g a ρ x) (h2 : Ed S g b ρ y) (h3 : Ed S g c ρ z) (hx : seqD x xs) (hy : seqD y ys) (hw : seqD z ws) (hl : xs.length = ys.length) (hl2 : xs.length = ws.length)
    (hs : ∀ env, starEach [a, b, c] env = (false, eval a env) :: starEach [b, c] env := by intro _; rfl) (hs2 : ∀ env, starEach [b, c] env = (false, eval b env) :: starEach [c] env := by intro _; rfl) (hs3 : ∀ env, starEach [c] env = (false, eval c env) :: starEach [] env := by intro _; rfl) (hpl : ∀ env, (backTo pos (starEach [b, c] env)).any (·.1) = false := by intro _; rfl) :
    EdI S g (.Tuple elts kk tpos) (.Call (.Name "zip" p) [a, b, c] [] pos) ρ (zp3 xs ys ws) :=
  edi_of3 (eda_cons h1 (eda_cons h2 (eda_cons h3 eda_nil hs3) hs2) hs) hx hy hw hl hl2 fun X c => pi_zn (.inr rfl) (gl_of c hg) (by rw [c.mg]; exact hm) (wA_ok c) (fun _ _ => trivial) (hs _) (hpl _)
theorem edi_zips3 {x y z : Dat} {xs ys ws : List Dat} (hg : glB S.sc "zip" = true) (hm : S.mg "zip" = none) (h1 : Ed S g a ρ x) (h2 : Ed S g b ρ y) (h3 : Ed S g c ρ z) (hx : seqD x xs) (hy : seqD y ys) (hw : seqD z ws) (hl : xs.length = ys.length) (hl2 : xs.length = ws.length)
    (hs : ∀ env, starEach [a, b, c] env = (false, eval a env) :: starEach [b, c] env := by intro _; rfl) (hs2 : ∀ env, starEach [b, c] env = (false, eval b env) :: starEach [c] env := by intro _; rfl) (hs3 : ∀ env, starEach [c] env = (false, eval c env) :: starEach [] env := by intro _; rfl) (he : ∀ env, backTo pos (starEach [a, b, c] env) = (false, eval a env) :: backTo pos (starEach [b, c] env) := by intro _; rfl) (hpl : ∀ env, (backTo pos (starEach [a, b, c] env)).any (·.1) = false := by intro _; rfl) :
    EdI S g (.Tuple elts kk tpos) (.Call (.Name "zip" p) [a, b, c] [⟨some "strict", .Constant (.bool true) kc cp, kp⟩] pos) ρ (zp3 xs ys ws) :=
  edi_of3 (eda_cons h1 (eda_cons h2 (eda_cons h3 eda_nil hs3) hs2) hs) hx hy hw hl hl2 fun X c => pi_zs (.inr rfl) (gl_of c hg) (by rw [c.mg]; exact hm) (wA_ok c) (he _) (hpl _)
end
end Kb
/-! more rules over data: ==, in, index, min, sorted, .. -/
namespace Kb
open PySem PySem.Spec PyProof.Rows L2
abbrev lI (xs : List Int) : Dat := .lst (xs.map .int)
abbrev tI (xs : List Int) : Dat := .tup (xs.map .int)
def pI (p : Int × Int) : Dat := .tup [.int p.1, .int p.2]
abbrev lP (xs : List (Int × Int)) : Dat := .lst (xs.map pI)
def dpI (p : Int × Int) : PyData := .tuple [.int p.1, .int p.2]
section
variable {K : PySem.W.Frag} {M : Mu} {H : Hp}
theorem dp_ints : ∀ {xs : List Int} {vs : List V}, Ats M H (xs.map .int) vs → DpAll K H vs (xs.map .int)
  | [], vs, h => by rw [h.nil_inv]; exact .nil
  | x :: xs, vs, h => by
    obtain ⟨v, r, rfl, h1, h2⟩ := h.cons_inv
    rw [at_int h1]
    exact .cons (.int x) (dp_ints h2)
theorem dp_pair {p : Int × Int} {v : V} (h : At M H (pI p) v) : Dp K H v (dpI p) := by
  obtain ⟨a, vs, rfl, _, ha, s⟩ := at_tup h
  exact .tup (SqT.of ha) (dp_ints (xs := [p.1, p.2]) s)
theorem dp_pairs : ∀ {xs : List (Int × Int)} {vs : List V}, Ats M H (xs.map pI) vs → DpAll K H vs (xs.map dpI)
  | [], vs, h => by rw [h.nil_inv]; exact .nil
  | x :: xs, vs, h => by
    obtain ⟨v, r, rfl, h1, h2⟩ := h.cons_inv
    exact .cons (dp_pair h1) (dp_pairs h2)
theorem dp_lI {xs : List Int} {v : V} (h : At M H (lI xs) v) : Dp K H v (.list (xs.map .int)) := by
  obtain ⟨a, vs, rfl, _, ha, s⟩ := at_lst h
  exact .lst (SqL.of ha) (dp_ints s)
theorem dp_lP {xs : List (Int × Int)} {v : V} (h : At M H (lP xs) v) : Dp K H v (.list (xs.map dpI)) := by
  obtain ⟨a, vs, rfl, _, ha, s⟩ := at_lst h
  exact .lst (SqL.of ha) (dp_pairs s)
end
theorem lay_ints : ∀ xs : List Int, PyData.canLayAll0 (xs.map .int) = true
  | [] => by simp [PyData.canLayAll0]
  | x :: xs => by simp [PyData.canLayAll0, PyData.canLay0, lay_ints xs]
theorem depth_ints : ∀ xs : List Int, PyData.depthAll (xs.map .int) = 0
  | [] => by simp [PyData.depthAll]
  | x :: xs => by simp [PyData.depthAll, PyData.depth, depth_ints xs]
theorem lay_pairs : ∀ xs : List (Int × Int), PyData.canLayAll0 (xs.map dpI) = true
  | [] => by simp [PyData.canLayAll0]
  | x :: xs => by simp [PyData.canLayAll0, PyData.canLay0, dpI, lay_pairs xs]
theorem depth_pairs : ∀ xs : List (Int × Int), PyData.depthAll (xs.map dpI) ≤ 1
  | [] => by simp [PyData.depthAll]
  | x :: xs => by
    have := depth_pairs xs
    simp [PyData.depthAll, PyData.depth, dpI]
    omega
theorem shaped_lI (xs : List Int) : SeqAt.shaped (.list (xs.map .int)) = true := by
  simp [SeqAt.shaped, PyData.canLay0, lay_ints, PyData.depth, depth_ints]
theorem shaped_lP (xs : List (Int × Int)) : SeqAt.shaped (.list (xs.map dpI)) = true := by
  have := depth_pairs xs
  simp [SeqAt.shaped, PyData.canLay0, lay_pairs, PyData.depth]
  omega
theorem shaped_pI (p : Int × Int) : SeqAt.shaped (dpI p) = true := by
  simp [SeqAt.shaped, PyData.canLay0, PyData.canLayAll0, dpI, PyData.depth, PyData.depthAll]
theorem eqvAll_ints : ∀ xs ys : List Int, PyData.eqvAll (xs.map .int) (ys.map .int) = decide (xs = ys)
  | [], [] => by simp [PyData.eqvAll]
  | [], y :: ys => by simp [PyData.eqvAll]
  | x :: xs, [] => by simp [PyData.eqvAll]
  | x :: xs, y :: ys => by
    have h := eqvAll_ints xs ys
    simp only [List.map_cons, PyData.eqvAll, PyData.eqv, h, List.cons.injEq]
    by_cases e : x = y
    · simp [e]
    · simp [e]
theorem eqv_pair (p q : Int × Int) : PyData.eqv (dpI p) (dpI q) = decide (p = q) := by
  unfold dpI
  rw [PyData.eqv]
  have h := eqvAll_ints [p.1, p.2] [q.1, q.2]
  rw [show ([PyData.int p.1, .int p.2] : List PyData) = [p.1, p.2].map .int from rfl, show ([PyData.int q.1, .int q.2] : List PyData) = [q.1, q.2].map .int from rfl, h]
  obtain ⟨a, b⟩ := p
  obtain ⟨c, d⟩ := q
  simp
theorem eqvAll_pairs0 : ∀ xs : List (Int × Int), PyData.eqvAll (xs.map dpI) [] = xs.isEmpty
  | [] => by simp [PyData.eqvAll]
  | x :: xs => by simp [PyData.eqvAll]
section
variable {S : Sg} {g : Wd} {e a b c : Expr} {es : List Expr} {ρ : En} {n : Nat} {pos p q kp cp : Pos} {x : Str} {kc : Nat}
theorem o_eqI {k : Nat} (hr : Room k S.A) {xs ys : List Int} : Op S (compareOp .Eq) (lI xs) (lI ys) (.bl (decide (xs = ys))) := fun M H al v w a1 a2 Q q =>
  ⟨rEqD S.K, fun X c => by rw [← c.K]; exact op_eqD (by rw [c.A]; exact hr.units), _, _, dp_lI a1, dp_lI a2, shaped_lI _, shaped_lI _, by
    rw [PyData.eqv, eqvAll_ints]; exact q _ H (Same.refl H) At.bl⟩
theorem o_neI {k : Nat} (hr : Room k S.A) {xs ys : List Int} : Op S (compareOp .NotEq) (lI xs) (lI ys) (.bl (decide (xs ≠ ys))) := fun M H al v w a1 a2 Q q =>
  ⟨rNeD S.K, fun X c => by rw [← c.K]; exact op_neD (by rw [c.A]; exact hr.units), _, _, dp_lI a1, dp_lI a2, shaped_lI _, shaped_lI _, by
    rw [PyData.eqv, eqvAll_ints, show (!decide (xs = ys)) = decide (xs ≠ ys) by simp]; exact q _ H (Same.refl H) At.bl⟩
theorem o_neP0 {k : Nat} (hr : Room k S.A) {xs : List (Int × Int)} : Op S (compareOp .NotEq) (lP xs) (.lst []) (.bl (!xs.isEmpty)) := fun M H al v w a1 a2 Q q =>
  ⟨rNeD S.K, fun X c => by rw [← c.K]; exact op_neD (by rw [c.A]; exact hr.units), _, _, dp_lP a1, dp_lI (xs := []) a2, shaped_lP _, shaped_lI [], by
    rw [List.map_nil, PyData.eqv, eqvAll_pairs0]; exact q _ H (Same.refl H) At.bl⟩
/-! in -/
theorem inV_ints (i : Int) : ∀ xs : List Int, inV (.int i) (xs.map V.int) = decide (i ∈ xs)
  | [] => by simp [inV]
  | x :: xs => by
    have h := inV_ints i xs
    unfold inV at h ⊢
    rw [List.map_cons, List.any_cons, h]
    by_cases e : i = x
    · simp [e, eqV]
    · have e' : ¬ x = i := fun z => e z.symm
      simp [e, e', eqV]
theorem flat_ints (xs : List Int) : (xs.map V.int).all flatV = true := by simp [flatV]
theorem flat_bls (xs : List Bool) : (xs.map V.bl).all flatV = true := by simp [flatV]
theorem o_inI {i : Int} {xs : List Int} : Op S (compareOp .In) (.int i) (lI xs) (.bl (decide (i ∈ xs))) := fun M H al v w a1 a2 Q q => by
  obtain ⟨b, us, rfl, _, hb, sb⟩ := at_lst a2
  rw [sb.ints] at hb
  exact ⟨rIn S.K false, fun X c => by rw [← c.K]; exact op_in_seq, b, _, rfl, .inl (SqL.of hb), by rw [at_int a1]; rfl, flat_ints xs, by
    rw [at_int a1, inV_ints]; exact q _ H (Same.refl H) At.bl⟩
theorem o_ninI {i : Int} {xs : List Int} : Op S (compareOp .NotIn) (.int i) (lI xs) (.bl (decide (i ∉ xs))) := fun M H al v w a1 a2 Q q => by
  obtain ⟨b, us, rfl, _, hb, sb⟩ := at_lst a2
  rw [sb.ints] at hb
  exact ⟨rIn S.K true, fun X c => by rw [← c.K]; exact op_notIn_seq, b, _, rfl, .inl (SqL.of hb), by rw [at_int a1]; rfl, flat_ints xs, by
    rw [at_int a1, inV_ints]
    show Q (.bl (!decide (i ∈ xs))) H
    rw [show (!decide (i ∈ xs)) = decide (i ∉ xs) by simp]
    exact q _ H (Same.refl H) At.bl⟩
theorem inV_bls : ∀ xs : List Bool, inV (.bl false) (xs.map V.bl) = !xs.all id
  | [] => by simp [inV]
  | x :: xs => by
    have h := inV_bls xs
    unfold inV at h ⊢
    rw [List.map_cons, List.any_cons, h]
    cases x <;> simp [eqV]
/-- False in [..] -/
theorem o_inF {xs : List Bool} : Op S (compareOp .In) (.bl false) (.lst (xs.map .bl)) (.bl (!xs.all id)) := fun M H al v w a1 a2 Q q => by
  obtain ⟨b, us, rfl, _, hb, sb⟩ := at_lst a2
  rw [sb.bls] at hb
  exact ⟨rIn S.K false, fun X c => by rw [← c.K]; exact op_in_seq, b, _, rfl, .inl (SqL.of hb), by rw [at_bl a1]; rfl, flat_bls xs, by
    rw [at_bl a1, inV_bls]; exact q _ H (Same.refl H) At.bl⟩
theorem o_ninF {xs : List Bool} : Op S (compareOp .NotIn) (.bl false) (.lst (xs.map .bl)) (.bl (xs.all id)) := fun M H al v w a1 a2 Q q => by
  obtain ⟨b, us, rfl, _, hb, sb⟩ := at_lst a2
  rw [sb.bls] at hb
  exact ⟨rIn S.K true, fun X c => by rw [← c.K]; exact op_notIn_seq, b, _, rfl, .inl (SqL.of hb), by rw [at_bl a1]; rfl, flat_bls xs, by
    rw [at_bl a1, inV_bls]
    show Q (.bl (!!xs.all id)) H
    rw [Bool.not_not]
    exact q _ H (Same.refl H) At.bl⟩
theorem any_eqv (p : Int × Int) : ∀ xs : List (Int × Int), ((xs.map dpI).any fun z => PyData.eqv z (dpI p)) = decide (p ∈ xs)
  | [] => by simp
  | x :: xs => by
    rw [List.map_cons, List.any_cons, any_eqv p xs, eqv_pair]
    by_cases e : p = x
    · simp [e]
    · have e' : ¬ x = p := fun z => e z.symm
      simp [e, e']
theorem o_inP {k : Nat} (hr : Room k S.A) {p : Int × Int} {xs : List (Int × Int)} : Op S (compareOp .In) (pI p) (lP xs) (.bl (decide (p ∈ xs))) := fun M H al v w a1 a2 Q q =>
  ⟨rInD S.K, fun X c => by rw [← c.K]; exact op_inD (by rw [c.A]; have := hr.un; omega), _, _, dp_pair a1, dp_lP a2, shaped_pI p, shaped_lP xs, by
    rw [any_eqv]; exact q _ H (Same.refl H) At.bl⟩
/-! any of ints -/
theorem truth_ints {prog : Program} {w : World} {A : Around} {ns : List Int} {its : List Value} (e : IntsAre its ns) : TruthOf prog w A (fun i v => its.toArray[i]? = some v) (fun i => (ns.map fun n => n != 0).getD i false) := fun i v s Q E hv hq => by
  have hv' : its[i]? = some v := by simpa using hv
  have key : ∀ {its : List Value} {ns : List Int}, IntsAre its ns → ∀ i : Nat, its[i]? = some v → ∃ (n : Int) (t : Tok), v = .int n t ∧ ns[i]? = some n := by
    intro its ns h
    induction h with
    | nil => intro i e; simp at e
    | cons n t r ih =>
      intro i e
      cases i with
      | zero => cases e; exact ⟨n, t, rfl, rfl⟩
      | succ i => exact ih i (by simpa using e)
  obtain ⟨n, t, rfl, hn⟩ := key e i hv'
  have hg : (ns.map fun n => n != 0).getD i false = (n != 0) := by rw [List.getD_eq_getElem?_getD, List.getElem?_map, hn] <;> rfl
  have hq' : Q ((ns.map fun n => n != 0).getD i false) s := hq
  rw [hg] at hq'
  exact PySem.P.truthy_int hq'
def rAnyI (K : PySem.W.Frag) : List V → Hp → VK → Prop := fun vs H Q => ∃ (a : Addr) (ns : List Int), vs = [V.ref a] ∧ SqL K H a (ns.map V.int) ∧ Q (.bl (ns.any fun n => n != 0)) H
theorem cr_anyI {X : Cx} (hc : X.calm = true) : CallR X (.builtin "any") (rAnyI X.K) := by
  intro pins s σ H vs us Q I r h
  obtain ⟨a, ns, rfl, hs, q⟩ := h
  obtain ⟨its, rv, hl, _⟩ := I.list hs
  rw [Vals.ref1 r]
  have hb := intsAre_of rv
  refine call_any_walk (iter_any hl.isList fun s₂ e2 st hne => ?_)
  subst e2
  refine ⟨_, _, _, _, _, _, _, rfl, Walks.list (A := X.A.in1) (I.ok.hd hc) _ a hne its.toArray, st, truth_ints hb, fun h' tk hk => ?_⟩
  refine ⟨.bl _, H, I.kept fun b o eo => hk b o (fun hmem => ?_) (Heap.get?_push_of_some _ eo), ?_, q⟩
  · rcases List.mem_cons.mp hmem with e1 | hmem
    · exact absurd (e1 ▸ Heap.lt_size eo) (Nat.lt_irrefl _)
    · cases hmem
  · show Value.bool _ = Value.bool _
    have := any_range (ns.map fun n => n != 0)
    rw [List.any_map] at this
    rw [show (ns.any fun n => n != 0) = ns.any (id ∘ fun n => n != 0) from rfl, ← this, List.size_toArray, ← rv.length, List.length_map, List.length_map]
theorem c_anyI {ns : List Int} {K : Dat → Prop} (k : K (.bl (ns.any fun n => n != 0))) : Cd S (.builtin "any") [lI ns] K := fun M H al vs a Q q => by
  obtain ⟨v, rfl, av⟩ := ats1 a
  obtain ⟨b, us, rfl, nb, hb, sb⟩ := at_lst av
  exact ⟨rAnyI S.K, fun X c => by rw [← c.K]; exact cr_anyI c.calm, b, ns, rfl, SqL.of (by rw [← sb.ints]; exact hb), q _ H _ (Same.refl H) At.bl k⟩
end
end Kb
namespace Kb
open PySem PySem.Spec PyProof.Rows L2
open PySem.W (dataLt dataLt_ii AlikeAll min_list_default minD min_list_data minD_ints reads_keeps alike_unique)
section
variable {S : Sg} {g : Wd} {e a b c : Expr} {es : List Expr} {ρ : En} {n : Nat} {pos p q kp cp : Pos} {x : Str} {kc : Nat}
/-! min(xs, default=None) of ints -/
theorem minD_mem (n : Int) : ∀ ns : List Int, ns.foldl min n ∈ n :: ns ∧ ∀ y ∈ n :: ns, ns.foldl min n ≤ y := by
  intro ns
  induction ns generalizing n with
  | nil => exact ⟨by simp, fun y hy => by simp at hy; rw [hy]; exact Int.le_refl _⟩
  | cons k r ih =>
    obtain ⟨h1, h2⟩ := ih (min n k)
    rw [List.foldl_cons]
    refine ⟨?_, fun y hy => ?_⟩
    · rcases List.mem_cons.mp h1 with z | z
      · rw [z]
        by_cases hnk : n ≤ k
        · rw [Int.min_eq_left hnk]; simp
        · rw [Int.min_eq_right (by omega)]; simp
      · exact List.mem_cons_of_mem _ (List.mem_cons_of_mem _ z)
    · have h3 := h2 (min n k) List.mem_cons_self
      rcases List.mem_cons.mp hy with z | z
      · rw [z]; exact Int.le_trans h3 (Int.min_le_left _ _)
      · rcases List.mem_cons.mp z with z | z
        · rw [z]; exact Int.le_trans h3 (Int.min_le_right _ _)
        · exact h2 y (List.mem_cons_of_mem _ z)
def rMinD (K : PySem.W.Frag) : List V → List V → Hp → VK → Prop := fun vs zs H Q => ∃ (a : Addr) (ns : List Int), vs = [V.ref a] ∧ zs = [.non] ∧ SqL K H a (ns.map V.int) ∧ (ns = [] → Q .non H) ∧ ∀ m, m ∈ ns → (∀ y ∈ ns, m ≤ y) → Q (.int m) H
theorem reads_ints {h : Heap} : ∀ {its : List Value} {ns : List Int}, IntsAre its ns → ∃ as, ReadsAll h its (ns.map .int) as := by
  intro its ns r
  induction r with
  | nil => exact ⟨_, .nil⟩
  | cons n t r ih =>
    obtain ⟨as, h1⟩ := ih
    exact ⟨_, .cons (Reads.int n t) h1⟩
theorem alike_ints (ns : List Int) : AlikeAll (ns.map PyData.int) := by
  refine ⟨fun x hx y hy => ?_, fun x hx => ?_⟩
  · obtain ⟨i, _, rfl⟩ := List.mem_map.mp hx
    obtain ⟨j, _, rfl⟩ := List.mem_map.mp hy
    rfl
  · obtain ⟨i, _, rfl⟩ := List.mem_map.mp hx
    intro z
    cases z
theorem cr_minD {X : Cx} (hc : X.calm = true) (hu : X.A.units + 64 < cLine) : CallRK X (.builtin "min") [Str.ofString "default"] (rMinD X.K) := by
  intro pins s σ H vs zs us ws Q I r rz h
  obtain ⟨a, ns, rfl, rfl, hs, q0, q⟩ := h
  obtain ⟨its, rv, hl, _⟩ := I.list hs
  rw [Vals.ref1 r]
  cases rz with
  | cons r1 rr =>
  cases rr
  cases r1
  have hb := intsAre_of rv
  obtain ⟨as, hr⟩ := reads_ints (h := s.heap) hb
  refine min_list_default (vs := its.toArray) (I.ok.hd hc) hl.isList (by simpa using hr) (alike_ints ns) (by rw [depth_ints]; omega) (fun en h' tk hk => ?_) fun y ys i v h' tk bs exs hv hrd hk => ?_
  · exact ⟨.non, H, I.kept hk, rfl, q0 (by simpa using en)⟩
  · cases ns with
    | nil => cases exs
    | cons n ns =>
      rw [List.map_cons] at exs
      injection exs with e1 e2
      subst e1 e2
      rw [minD_ints] at hrd
      obtain ⟨m1, m2⟩ := minD_mem n ns
      cases hrd with
      | int i t => exact ⟨.int _, H, I.kept hk, ⟨t, rfl⟩, q _ m1 m2⟩
theorem ed_minD {k : Nat} (hr : Room k S.A) {ns : List Int} {d : Dat} (hg : glB S.sc "min" = true) (hm : S.mg "min" = none) (h : Ed S g e ρ (lI ns)) (h0 : ns = [] → d = .non) (h1 : ∀ m, m ∈ ns → (∀ y ∈ ns, m ≤ y) → d = .int m)
    (he : ∀ env, starEach [e] env = (false, eval e env) :: starEach [] env := by intro _; rfl) (he2 : ∀ env, backTo pos (starEach [e] env) = (false, eval e env) :: backTo pos (starEach [] env) := by intro _; rfl) (hpl : ∀ env, (backTo pos (starEach [e] env)).any (·.1) = false := by intro _; rfl) :
    Ed S g (.Call (.Name "min" p) [e] [⟨some "default", .Constant .none kc cp, kp⟩] pos) ρ d := fun n M Hb ad σ H E Q q =>
  ⟨tCKw (rMinD S.K) (tCons (wE S e) tNil) (tCons (tC .non) tNil), fun X c => pe_callBK (by rw [← c.K]; exact cr_minD c.calm (by rw [c.A]; exact hr.units)) (gl_of c hg) (by rw [c.mg]; exact hm) PyProof.Rows.boot_min (pa_cons (wE_ok c) pa_nil (he _)) (pk_cons pe_non pk_nil) (by decide) (by decide) (he2 _) (hpl _),
    h n M Hb ad σ H E _ fun n1 v H1 d1 k j a ⟨e1, e2⟩ => by
      subst e1 e2
      obtain ⟨b, us, rfl, _, hb, sb⟩ := at_lst a
      rw [sb.ints] at hb
      exact ⟨b, ns, rfl, rfl, SqL.of hb, fun z => q _ _ H1 _ k j (by rw [h0 z]; exact At.non) ⟨rfl, rfl⟩, fun m m1 m2 => q _ _ H1 _ k j (by rw [h1 m m1 m2]; exact At.int) ⟨rfl, rfl⟩⟩⟩
/-! min of pairs -/
abbrev lexLt (p q : Int × Int) : Prop := p.1 < q.1 ∨ (p.1 = q.1 ∧ p.2 < q.2)
theorem dataLt_pI (p q : Int × Int) : dataLt (dpI p) (dpI q) = decide (lexLt p q) := dataLt_ii p.1 p.2 q.1 q.2
theorem minD_pairs (x : Int × Int) : ∀ xs : List (Int × Int), ∃ m ∈ x :: xs, minD (dpI x) (xs.map dpI) = dpI m ∧ ∀ y ∈ x :: xs, ¬ lexLt y m := by
  intro xs
  unfold minD
  induction xs generalizing x with
  | nil => exact ⟨x, by simp, rfl, fun y hy => by
      simp at hy
      subst hy
      unfold lexLt
      omega⟩
  | cons k r ih =>
    rw [List.map_cons, List.foldl_cons, dataLt_pI]
    by_cases h : lexLt k x
    · rw [if_pos (by simpa using h)]
      obtain ⟨m, h1, h2, h3⟩ := ih k
      refine ⟨m, List.mem_cons_of_mem _ h1, h2, fun y hy => ?_⟩
      rcases List.mem_cons.mp hy with z | z
      · subst z
        have := h3 k List.mem_cons_self
        unfold lexLt at *
        omega
      · exact h3 y z
    · rw [if_neg (by simpa using h)]
      obtain ⟨m, h1, h2, h3⟩ := ih x
      refine ⟨m, ?_, h2, fun y hy => ?_⟩
      · rcases List.mem_cons.mp h1 with z | z
        · rw [z]; simp
        · exact List.mem_cons_of_mem _ (List.mem_cons_of_mem _ z)
      · rcases List.mem_cons.mp hy with z | z
        · exact h3 y (by rw [z]; simp)
        · rcases List.mem_cons.mp z with z | z
          · subst z
            have := h3 x List.mem_cons_self
            unfold lexLt at *
            omega
          · exact h3 y (List.mem_cons_of_mem _ z)
theorem alike_pairs (ns : List (Int × Int)) : AlikeAll (ns.map dpI) := by
  refine ⟨fun x hx y hy => ?_, fun x hx => ?_⟩
  · obtain ⟨i, _, rfl⟩ := List.mem_map.mp hx
    obtain ⟨j, _, rfl⟩ := List.mem_map.mp hy
    rfl
  · obtain ⟨i, _, rfl⟩ := List.mem_map.mp hx
    intro z
    cases z
def rMinP (K : PySem.W.Frag) : List V → Hp → VK → Prop := fun vs H Q => ∃ (a : Addr) (ys : List V) (ns : List (Int × Int)), vs = [V.ref a] ∧ SqL K H a ys ∧ DpAll K H ys (ns.map dpI) ∧ ns ≠ [] ∧ ∀ (i : Nat) v p, ys[i]? = some v → ns[i]? = some p → (∀ y ∈ ns, ¬ lexLt y p) → Q v H
theorem readsAll_get {h : Heap} : ∀ {its : List Value} {ds : List PyData} {as : List Addr}, ReadsAll h its ds as → ∀ (i : Nat) u, its[i]? = some u → ∃ d bs, ds[i]? = some d ∧ Reads h u d bs
  | _, _, _, .nil, i, u, e => by simp at e
  | _, _, _, .cons r rs, 0, u, e => by cases e; exact ⟨_, _, rfl, r⟩
  | _, _, _, .cons r rs, i + 1, u, e => by
    obtain ⟨d, bs, e1, e2⟩ := readsAll_get rs i u (by simpa using e)
    exact ⟨d, bs, by simpa using e1, e2⟩
theorem cr_minP {X : Cx} (hc : X.calm = true) (hu : X.A.units + 64 < cLine) : CallR X (.builtin "min") (rMinP X.K) := by
  intro pins s σ H vs us Q I r h
  obtain ⟨a, ys, ns, rfl, hs, hd, hne, q⟩ := h
  obtain ⟨its, rv, hl, _⟩ := I.list hs
  rw [Vals.ref1 r]
  obtain ⟨as, hr⟩ := Dp.readsAll I _ _ its hd rv
  cases ns with
  | nil => exact absurd rfl hne
  | cons n ns =>
    have hdp := depth_pairs (n :: ns)
    refine min_list_data (vs := its.toArray) (x := dpI n) (xs := ns.map dpI) (I.ok.hd hc) hl.isList (by simpa using hr) (alike_pairs (n :: ns)) (by rw [List.map_cons] at hdp; omega) fun i v h' tk bs hv hrd hk => ?_
    obtain ⟨m, m1, m2, m3⟩ := minD_pairs n ns
    rw [m2] at hrd
    have hv' : its[i]? = some v := by simpa using hv
    obtain ⟨d, bs', e1, e2⟩ := readsAll_get hr i v hv'
    have hi : i < ys.length := by
      have := (List.getElem?_eq_some_iff.mp hv').1
      rw [rv.length]
      exact this
    have ey : ys[i]? = some ys[i] := List.getElem?_eq_getElem hi
    obtain ⟨w, ew, rw'⟩ := rv.get ey
    rw [hv'] at ew
    cases ew
    rw [List.getElem?_map] at e1
    cases en : (n :: ns)[i]? with
    | none => rw [en] at e1; cases e1
    | some p =>
      rw [en] at e1
      cases e1
      have e3 : dpI p = dpI m := alike_unique _ _ v _ _ rfl (reads_keeps hk e2) hrd
      have ep : p = m := by
        unfold dpI at e3
        injection e3 with e3
        injection e3 with e4 e5
        injection e5 with e5 _
        injection e4 with e4
        injection e5 with e5
        exact Prod.ext e4 e5
      exact ⟨ys[i], H, I.kept hk, rw', q i _ p ey en (by rw [ep]; exact m3)⟩
theorem c_minP {ns : List (Int × Int)} {K : Dat → Prop} {k : Nat} (hr : Room k S.A) (hne : ns ≠ []) (kk : ∀ p ∈ ns, (∀ y ∈ ns, ¬ lexLt y p) → K (pI p)) : Cd S (.builtin "min") [lP ns] K := fun M H al vs a Q q => by
  obtain ⟨v, rfl, av⟩ := ats1 a
  obtain ⟨b, us, rfl, nb, hb, sb⟩ := at_lst av
  refine ⟨rMinP S.K, fun X c => by rw [← c.K]; exact cr_minP c.calm (by rw [c.A]; exact hr.units), b, us, ns, rfl, SqL.of hb, dp_pairs sb, hne, fun i v p e1 e2 hmin => ?_⟩
  obtain ⟨v', e3, e4⟩ := sb.get (i := i) (d := pI p) (by rw [List.getElem?_map, e2]; rfl)
  rw [e1] at e3
  cases e3
  exact q _ H _ (Same.refl H) e4 (kk p (List.mem_of_getElem? e2) hmin)
/-! sorted of pairs -/
noncomputable def kOf (H : Hp) (x : V) : Int × Int := open Classical in if h : ∃ p : Int × Int, ∃ t, x = V.ref t ∧ H t = some (.tup [.int p.1, .int p.2]) then h.choose else (0, 0)
theorem kOf_eq {H : Hp} {t : Addr} {p : Int × Int} (h : H t = some (.tup [.int p.1, .int p.2])) : kOf H (.ref t) = p := by
  unfold kOf
  have hx : ∃ p : Int × Int, ∃ t', V.ref t = V.ref t' ∧ H t' = some (.tup [.int p.1, .int p.2]) := ⟨p, t, rfl, h⟩
  rw [dif_pos hx]
  obtain ⟨t', e1, e2⟩ := hx.choose_spec
  cases e1
  rw [h] at e2
  injection e2 with e2
  injection e2 with e2
  injection e2 with e3 e4
  injection e4 with e4 _
  injection e3 with e3
  injection e4 with e4
  exact (Prod.ext e3 e4).symm
theorem ats_pairs {M : Mu} {H : Hp} : ∀ {xs : List (Int × Int)} {vs : List V}, Ats M H (xs.map pI) vs → vs.map (kOf H) = xs ∧ ∀ v ∈ vs, ∃ t, v = V.ref t ∧ ¬ M t ∧ H t = some (.tup [.int (kOf H v).1, .int (kOf H v).2])
  | [], vs, h => by rw [h.nil_inv]; exact ⟨rfl, fun v hv => by cases hv⟩
  | x :: xs, vs, h => by
    obtain ⟨v, r, rfl, h1, h2⟩ := h.cons_inv
    obtain ⟨t, us, rfl, nt, ht, hs⟩ := at_tup h1
    obtain ⟨i1, i2⟩ := ats_pairs h2
    have e : us = [.int x.1, .int x.2] := Ats.ints (ns := [x.1, x.2]) hs
    subst e
    have ek := kOf_eq ht
    refine ⟨by rw [List.map_cons, ek, i1], fun v hv => ?_⟩
    rcases List.mem_cons.mp hv with z | z
    · exact ⟨t, z, nt, by rw [z, ek]; exact ht⟩
    · exact i2 v z
theorem ats_of_pairs {M : Mu} {H : Hp} : ∀ {vs : List V}, (∀ v ∈ vs, ∃ t, v = V.ref t ∧ ¬ M t ∧ H t = some (.tup [.int (kOf H v).1, .int (kOf H v).2])) → Ats M H ((vs.map (kOf H)).map pI) vs
  | [], _ => Ats.nil
  | v :: vs, h => by
    obtain ⟨t, rfl, nt, ht⟩ := h v List.mem_cons_self
    exact Ats.cons (At.tup nt ht (Ats.of_ints (ns := [_, _]))) (ats_of_pairs fun u hu => h u (List.mem_cons_of_mem _ hu))
theorem c_sortedP {ns : List (Int × Int)} {K : List Dat → Prop} (k : ∀ ms : List (Int × Int), ms.Perm ns → ms.Pairwise (fun p q => ¬ lexLt q p) → K (ms.map pI)) : CdN S (.builtin "sorted") [lP ns] K := fun M H vs a Q q => by
  obtain ⟨v, rfl, av⟩ := ats1 a
  obtain ⟨b, us, rfl, nb, hb, sb⟩ := at_lst av
  obtain ⟨e1, e2⟩ := ats_pairs sb
  refine ⟨rSortedPO S.K, fun X c => by rw [← c.K]; exact cr_sortedPO, b, us, kOf H, rfl, SqL.of hb, fun x hx => ?_, fun ys p h1 h2 hp => ?_⟩
  · obtain ⟨t, et, _, ht⟩ := e2 x hx
    exact ⟨t, et, ht⟩
  · have hy : Ats M H ((ys.map (kOf H)).map pI) ys := ats_of_pairs fun v hv => e2 v (h2.perm.mem_iff.mp hv)
    refine q p ys _ _ hp (same_new hp) upd_same ((hy.more hp).same (same_new hp)) (k _ ?_ ?_)
    · rw [← e1]
      exact h2.perm.map _
    · refine List.pairwise_map.mpr (List.Pairwise.imp ?_ h1)
      intro x y hxy
      exact SrtO.lexB_no.mp hxy
/-! tuple * 1 -/
theorem tuple_mul1 (l : Addr) (items : Array Value) (nn : Nat) (dd : Option Addr) (sl : Array (Option Value)) (u : Tok) :
    Meets (Builtin.«tuple.__mul__» ⟨[.ref l, .int 1 u], []⟩) (fun _ R s => s.heap.get? l = some { cls := .type "tuple", dict := dd, data := .seq items nn, slots := sl } ∧ R (.ok (.ret (.ref l))) s) :=
  .of_wp fun prog w A R s h => by
    obtain ⟨hp, g, d, tk, os⟩ := s
    obtain ⟨hl, h⟩ := h
    have f1 := AutoSeq1.idx_int
    wp_walk using AutoSeq1.wpAny_loadPart' hl
    exact ⟨_, rfl, h⟩
def rRepT1 (K : PySem.W.Frag) : R2 := fun x y H Q => ∃ l xs, x = .ref l ∧ y = .int 1 ∧ SqT K H l xs ∧ Q (.ref l) H
theorem op_repT1 {X : Cx} : OpR X (binaryOp .Mult) (rRepT1 X.K) := by
  intro pins s σ H x y v u Q I rx ry h
  obtain ⟨l, xs, rfl, rfl, hT, q⟩ := h
  cases rx
  obtain ⟨t, rfl⟩ := ry
  obtain ⟨its, r, ⟨⟨cls, dd, data, sl⟩, ho, hc, n, hd⟩, hs⟩ := I.tuple hT
  simp only at hc hd
  subst hc hd
  exact wpAny_binaryOp_repeat_ref (T := "tuple") (U := "int") (by decide) ⟨_, ho, rfl⟩ (fun s' => typeIs_int s' 1 t) noFill_tuple_mul F.fills_int_mul F.slot_int_rmul repeat_tuple F.slot_int_index.lookup
    (call_meets F.slot_int_rmul (typeIs_int s 1 t) F.entry_int_rmul (F.args_int_rmul_2 _ _) (int_rmul_tuple 1 t l its.toArray n dd sl)
      ⟨ho, rfl, ⟨_, ho, rfl⟩, call_meets F.slot_tuple_mul ⟨_, ho, rfl⟩ F.entry_tuple_mul (F.args_tuple_mul_2 _ _) (tuple_mul1 l its.toArray n dd sl t) ⟨ho, ⟨.ref l, H, I, rfl, q⟩⟩⟩)
theorem o_repT1 {xs : List Dat} : Op S (binaryOp .Mult) (.tup xs) (.int 1) (.tup xs) := fun M H al v w a1 a2 Q q => by
  have a1' := a1
  obtain ⟨a, vs, rfl, na, ha, sa⟩ := at_tup a1
  exact ⟨rRepT1 S.K, fun X c => by rw [← c.K]; exact op_repT1, a, vs, rfl, at_int a2, SqT.of ha, q _ H (Same.refl H) a1'⟩
/-- a tuple, not empty, k times, k not 0 -/
theorem o_repTn {xs : List Dat} {k : Int} (hx : xs ≠ []) (h0 : 1 ≤ k) (h1 : k ≤ 1000) (hz : xs.length ≤ 1000) : Op S (binaryOp .Mult) (.tup xs) (.int k) (.tup (List.replicate k.toNat xs).flatten) := by
  by_cases h : k = 1
  · subst h
    have : (List.replicate (1 : Int).toNat xs).flatten = xs := by simp
    rw [this]
    exact o_repT1
  · exact o_repT hx (by omega) h1 hz
/-! xs.index(i), ints -/
theorem ev_index {K : Nat → Dat → Prop} {apos cpos : Pos} (h : Ev S g a ρ n fun n1 d => ∃ ns : List Int, d = lI ns ∧ Ev S g e ρ n1 fun n2 d2 => ∃ (i : Int) (j : Nat), d2 = .int i ∧ ns[j]? = some i ∧ (∀ m, m < j → ns[m]? ≠ some i) ∧ K n2 (.int (j : Nat)))
    (hst : ∀ env, starEach [e] env = (false, eval e env) :: starEach [] env := by intro _; rfl)
    (hm : ∀ X : Cx, PE X a (wE S a) → PE X e (wE S e) → PE X (.Call (.Attribute a "index" apos) [e] [] cpos) (tBM X.K "list" (rIndex X.K) (wE S a) (tCons (wE S e) tNil)) := by
      intro X h1 h2; exact pe_bm PySem.F.plainAttrs_list PySem.F.slot_list_index PySem.F.type_list_index mt_index h1 (pa_cons h2 pa_nil)) :
    Ev S g (.Call (.Attribute a "index" apos) [e] [] cpos) ρ n K := fun M Hb ad σ H E Q q =>
  ⟨tBM S.K "list" (rIndex S.K) (wE S a) (tCons (wE S e) tNil), fun X c => by rw [← c.K]; exact hm X (wE_ok c) (wE_ok c), h M Hb ad σ H E _ fun n1 v H1 d k1 j1 a1 ⟨ns, ed, r⟩ => by
    subst ed
    obtain ⟨b, us, rfl, nb, hb, sb⟩ := at_lst a1
    refine ⟨.inl ⟨rfl, _, SqL.of hb⟩, r M Hb ad σ H1 (E.keep k1 j1) _ fun n2 w H2 d2 k2 j2 a2 ⟨i, j, ed, hj, hno, kd⟩ => ?_⟩
    subst ed
    have a1' := (E.keep k1 j1).at_ k2 a1
    obtain ⟨b', us', eb, nb', hb', sb'⟩ := at_lst a1'
    cases eb
    rw [sb'.ints] at hb'
    refine ⟨b, _, .int i, j, .int i, rfl, by rw [at_int a2], SqL.of hb', rfl, flat_ints ns, by rw [List.getElem?_map, hj]; rfl, by simp [eqV], fun m z hm hz => ?_, q n2 _ H2 _ (k1.trans k2) j2 At.int kd⟩
    rw [List.getElem?_map] at hz
    cases em : ns[m]? with
    | none => rw [em] at hz; cases hz
    | some y =>
      rw [em] at hz
      cases hz
      show (y == i) = false
      exact beq_eq_false_iff_ne.mpr fun e => hno m hm (by rw [em, e])⟩
/-! len(set(xs)), ints, none twice -/
theorem ed_lenSet {ns : List Int} {p2 q2 : Pos} (hg : glB S.sc "len" = true) (hm : S.mg "len" = none) (hg2 : glB S.sc "set" = true) (hm2 : S.mg "set" = none) (h : Ed S g e ρ (lI ns)) (hnd : ns.Nodup) (hz : ns.length ≤ 4000)
    (hs : ∀ env, starEach [e] env = (false, eval e env) :: starEach [] env := by intro _; rfl) : Ed S g (.Call (.Name "len" p) [.Call (.Name "set" p2) [e] [] q2] [] pos) ρ (.int (ns.length : Nat)) := fun n M Hb ad σ H E Q q =>
  ⟨RZ.tLenSetI S.K (wE S e), fun X c => by rw [← c.K]; exact RZ.pe_lenSetI (gl_of c hg) (by rw [c.mg]; exact hm) (gl_of c hg2) (by rw [c.mg]; exact hm2) (wE_ok c) c.calm (hs _), h n M Hb ad σ H E _ fun n1 v H1 d k j a ⟨e1, e2⟩ => by
    subst e1 e2
    obtain ⟨b, us, rfl, nb, hb, sb⟩ := at_lst a
    rw [sb.ints] at hb
    exact ⟨b, ns, rfl, SqL.of hb, hnd, hz, q _ _ H1 _ k j At.int ⟨rfl, rfl⟩⟩⟩
end
end Kb
namespace Kb
open PySem PySem.Spec PyProof.Rows L2
/-! sorted(set(xs)), xs a few pairs -/
section
variable {P : Program} {w : World} {A : Around} {E : Value → Shared → Prop} {s : Shared}
theorem sorted_setP {a : Addr} {L : List (Addr × List Int)} {es : Array (Int × Value)} {ep : Nat} {t : SetTable} {Q : Value → Shared → Prop} (R : SetTR P w s.heap a L es ep t) (hh : A.handled = none) (hB : ∀ p ∈ L, ∃ x y, p.2 = [x, y])
    (hQ : ∀ s' p (out : List Value) (c : Nat), (∀ b o, s.heap.get? b = some o → s'.heap.get? b = some o) → s'.gens = s.gens → s'.os = s.os → s.heap.objs.size ≤ p →
      s'.heap.get? p = some (seqObj "list" out.toArray c) → out.Perm (L.map fun q => Value.ref q.1) → Q (.ref p) s') :
    wpAny (model P w) A (call (.builtin "sorted") [.ref a]) Q E s := by
  obtain ⟨o, ho, hex, hd⟩ := R.ob
  have hsz := R.size
  have hfew := R.few
  refine Calls.call_function_entry kind_sorted plain_sorted entry_sorted (args_sorted1 _) ?_
  unfold Builtin.«sorted»
  refine wpAny_bind (m := checkCount "sorted" 1 1 _) (wpAny_pure ?_)
  refine wpAny_bind (collect_set (A := A.in1) hh ⟨o, ho, hex.1, hd⟩ R.fits (by unfold scanBound; omega) R.tab.ris R.led fun s1 vs k1 hz g1 o1 pm => ?_)
  have hes : es.toList.map (·.2) = L.map fun q => Value.ref q.1 := by
    rw [R.rows]
    unfold rowsOf
    rw [List.map_map] <;> rfl
  rw [hes] at pm
  have hvl : vs.length < 64 := by rw [pm.length_eq, List.length_map]; exact hfew
  have hsl : vs.length ≤ sizeLine := by rw [sizeLine_eq]; omega
  refine wpAny_bind (wpAny_newList ?_ hsl)
  have hoL : (s1.heap.push (seqObj "list" vs.toArray 0)).get? s1.heap.objs.size = some (seqObj "list" vs.toArray 0) := Heap.get?_push_size _ rfl
  -- every value is a pair of ints
  have pr : ∀ v ∈ vs, ∃ x y, Srt.IsPair (s1.heap.push (seqObj "list" vs.toArray 0)) v x y := fun v hv => by
    obtain ⟨q, hq, e⟩ := List.mem_map.mp (pm.mem_iff.mp hv)
    obtain ⟨x, y, e2⟩ := hB q hq
    obtain ⟨b, items, eb, ⟨o', ho', hc', n', hd'⟩, hi⟩ := tupInts_of (P := P) (w := w) (isT_keep (R.tup q hq) fun b u e => Heap.get?_push_of_some (seqObj "list" vs.toArray 0) (k1 b u e))
    cases eb
    rw [e2] at hi
    obtain ⟨t1, t2, ei⟩ : ∃ t1 t2, items.toList = [.int x t1, .int y t2] := by
      revert hi
      generalize items.toList = l
      intro hi
      cases hi with
      | cons _ t1 r =>
      cases r with
      | cons _ t2 r =>
      cases r
      exact ⟨t1, t2, rfl⟩
    refine ⟨x, y, q.1, o', t1, t2, n', e.symm, ho', hc', ?_⟩
    rw [hd', show items = #[.int x t1, .int y t2] from by rw [← Array.toArray_toList (xs := items), ei]]
  let kf : Value → Int × Int := fun v => open Classical in if h : ∃ p : Int × Int, Srt.IsPair (s1.heap.push (seqObj "list" vs.toArray 0)) v p.1 p.2 then h.choose else (0, 0)
  have hk : ∀ v ∈ vs, Srt.IsPair (s1.heap.push (seqObj "list" vs.toArray 0)) v (kf v).1 (kf v).2 := fun v hv => by
    obtain ⟨x, y, h⟩ := pr v hv
    have hx : ∃ p : Int × Int, Srt.IsPair (s1.heap.push (seqObj "list" vs.toArray 0)) v p.1 p.2 := ⟨(x, y), h⟩
    have ek : kf v = hx.choose := dif_pos hx
    rw [ek]
    exact hx.choose_spec
  refine wpAny_bind (wpAny_holding (wpAny_call_entry slot_list_sort ⟨_, hoL, rfl⟩ entry_list_sort (SrtO.list_sort_ord (s := { s1 with heap := s1.heap.push (seqObj "list" vs.toArray 0) }) (SrtO.swo_lex kf) hoL hsl (fun h2 => SrtO.pairs_sortableO (s := { s1 with heap := s1.heap.push (seqObj "list" vs.toArray 0) }) (by omega) hk fun o e => ?_) fun out hs hb => ⟨_, rfl, ?_⟩) (args_list_sort _)))
  · rw [hoL] at e
    cases e
    intro c
    exact absurd (Value.type.inj c) (by decide)
  obtain ⟨c, hc⟩ := sortedHeap_at (vs := vs) (out := out.toArray) hoL
  refine wpAny_pure ⟨_, rfl, hQ _ s1.heap.objs.size out c (fun b u e => ?_) g1 o1 hz hc (hb.perm.trans pm)⟩
  have q := k1 b u e
  have hlt := Heap.lt_size q
  show (sortedHeap (s1.heap.push (seqObj "list" vs.toArray 0)) s1.heap.objs.size vs out.toArray).get? b = some u
  rw [sortedHeap_old (Nat.ne_of_lt hlt) (by rw [size_push']; exact Nat.lt_succ_of_lt hlt)]
  exact Heap.get?_push_of_some _ q
end
def rSortSetP (K : PySem.W.Frag) (P : Program) (w : World) : List V → Hp → VK → Prop := fun vs H Q => ∃ (a : Addr) (L : List (Addr × List Int)), vs = [V.ref a] ∧ H a = some (SetTO P w a L) ∧ (∀ p ∈ L, SqT K H p.1 (p.2.map V.int) ∧ ∃ x y, p.2 = [x, y]) ∧
  ∀ (ys : List V) (p : Addr), ys.Perm (L.map fun q => V.ref q.1) → (L.map (·.2)).Nodup → H p = none → Q (.ref p) (upd H p (.lst ys))
theorem nodup_len {α : Type} [DecidableEq α] : ∀ {l m : List α}, l.Nodup → (∀ x ∈ l, x ∈ m) → l.length ≤ m.length
  | [], m, _, _ => Nat.zero_le _
  | x :: l, m, nd, h => by
    obtain ⟨n1, n2⟩ := List.nodup_cons.mp nd
    have hx := h x List.mem_cons_self
    have := nodup_len (l := l) (m := m.erase x) n2 fun y hy => (List.mem_erase_of_ne (fun z => n1 (by rw [← z]; exact hy))).mpr (h y (List.mem_cons_of_mem _ hy))
    rw [List.length_erase_of_mem hx] at this
    have hpos : 0 < m.length := List.length_pos_of_mem hx
    rw [List.length_cons]
    omega
theorem cr_sortSetP {X : Cx} (hc : X.calm = true) : CallR X (.builtin "sorted") (rSortSetP X.K X.prog X.w) := by
  intro pins s σ H vs us Q I r h
  obtain ⟨a, L, rfl, ha, hk, q⟩ := h
  have R0 : SetT0 X.prog X.w s.heap a L := (I.hok a _ ha).1
  obtain ⟨es, ep, t, R⟩ := R0.full fun p hp => I.isT (hk p hp).1
  rw [Vals.ref1 r]
  refine sorted_setP R (I.ok.hd hc) (fun p hp => (hk p hp).2) fun s' p out c k g o hp hg pm => ?_
  have hfew := R.few
  -- the values
  let back : Value → V := fun v => match v with
    | .ref b => .ref b
    | _ => .non
  have hr : ∀ v ∈ out, ∃ b, v = Value.ref b := fun v hv => by
    obtain ⟨q, hq, e⟩ := List.mem_map.mp (pm.mem_iff.mp hv)
    exact ⟨q.1, e.symm⟩
  have hv : Vals (out.map back) out := by
    clear pm hg
    induction out with
    | nil => exact .nil
    | cons v out ih =>
      obtain ⟨b, rfl⟩ := hr v List.mem_cons_self
      exact .cons rfl (ih fun u hu => hr u (List.mem_cons_of_mem _ hu))
  have hp2 : (out.map back).Perm (L.map fun q => V.ref q.1) := by
    have := pm.map back
    rw [List.map_map] at this
    exact this
  have hlen : (out.map back).length ≤ sizeLine := by rw [hp2.length_eq, List.length_map, sizeLine_eq]; omega
  have hn : H p = none := I.hok.fresh hp
  have J : Inv X pins σ (upd H p (.lst (out.map back))) { s with heap := s'.heap, gens := s'.gens, drawn := s'.drawn, toks := s'.toks } :=
    I.call (ch := []) (Un.laid k hp hn) (I.hok.laid k hp ⟨hlen, out, c, hv, hg⟩) (by rw [g]; exact I.bare) (fun _ z => nomatch z)
  have e : s' = { s with heap := s'.heap, gens := s'.gens, drawn := s'.drawn, toks := s'.toks } := by
    cases s'
    cases s
    cases o
    rfl
  rw [e]
  exact ⟨.ref p, _, J, rfl, q _ p hp2 R.nd hn⟩
section
variable {S : Sg} {g : Wd} {e a b c : Expr} {es : List Expr} {ρ : En} {n : Nat} {pos p q kp cp : Pos} {x : Str} {kc : Nat}
/-- sorted(set(xs)): some of xs, each of xs once or oftener -/
theorem evn_sortSet {k : Nat} (hr : Room k S.A) {K : Nat → List Dat → Prop} {p2 q2 : Pos} (hg : glB S.sc "sorted" = true) (hm : S.mg "sorted" = none) (hg2 : glB S.sc "set" = true) (hm2 : S.mg "set" = none)
    (h : Ev S g e ρ n fun n1 d => ∃ ns : List (Int × Int), d = lP ns ∧ ns.length < 64 ∧ ∀ ms : List (Int × Int), (∀ p ∈ ms, p ∈ ns) → (∀ p ∈ ns, p ∈ ms) → ms.length ≤ ns.length → K n1 (ms.map pI))
    (hs : ∀ env, starEach [e] env = (false, eval e env) :: starEach [] env := by intro _; rfl) (hs2 : ∀ env, starEach [.Call (.Name "set" p2) [e] [] q2] env = (false, eval (.Call (.Name "set" p2) [e] [] q2) env) :: starEach [] env := by intro _; rfl) :
    EvN S g (.Call (.Name "sorted" p) [.Call (.Name "set" p2) [e] [] q2] [] pos) ρ n K := fun M Hb ad σ H E Q q => by
  refine ⟨tCB (rSortSetP S.K S.P S.w) (tCons (tCB (rSetOfT S.K S.P S.w) (tCons (wE S e) tNil)) tNil), fun X c => ?_, ?_⟩
  · rw [← c.K, ← c.P, ← c.w]
    exact pe_callB (cr_sortSetP c.calm) (gl_of c hg) (by rw [c.mg]; exact hm) PyProof.Rows.boot_sorted (pa_cons (pe_callTy (cr_setOfT c.calm (by rw [c.A]; exact hr.units)) (gl_of c hg2) (by rw [c.mg]; exact hm2) PyProof.Rows.boot_set (pa_cons (wE_ok c) pa_nil (hs _)) (by decide) (by decide) (hs _) rfl) pa_nil (hs2 _)) (by decide) (by decide) (hs2 _) rfl
  refine h M Hb ad σ H E _ fun n1 v H1 d k1 j1 a1 ⟨ns, ed, hl, kk⟩ => ?_
  subst ed
  obtain ⟨b, us, rfl, nb, hb, sb⟩ := at_lst a1
  obtain ⟨e1, e2⟩ := ats_pairs sb
  have E1 := E.keep k1 j1
  let ad2 : V → Addr := fun v => match v with
    | .ref t => t
    | _ => 0
  let ks : List (Addr × List Int) := us.map fun v => (ad2 v, [(kOf H1 v).1, (kOf H1 v).2])
  have eus : us = ks.map fun p => V.ref p.1 := by
    show us = (us.map _).map _
    rw [List.map_map]
    apply List.ext_getElem?
    intro i
    rw [List.getElem?_map]
    cases ei : us[i]? with
    | none => rfl
    | some v =>
      obtain ⟨t, rfl, _⟩ := e2 v (List.mem_of_getElem? ei)
      rfl
  have hks : ∀ p ∈ ks, ∃ v ∈ us, v = V.ref p.1 ∧ ¬ Mx M ad ρ p.1 ∧ H1 p.1 = some (.tup (p.2.map V.int)) ∧ p.2 = [(kOf H1 v).1, (kOf H1 v).2] := fun p hp => by
    obtain ⟨v, hv, rfl⟩ := List.mem_map.mp hp
    obtain ⟨t, rfl, nt, ht⟩ := e2 v hv
    exact ⟨_, hv, rfl, nt, ht, rfl⟩
  have ull : us.length = ns.length := by rw [sb.len, List.length_map]
  refine ⟨b, ks, rfl, SqL.of (by rw [← eus]; exact hb), fun p hp => ?_, by rw [show ks.length = us.length from List.length_map _]; omega, fun a L ha hL1 hL2 => ?_⟩
  · obtain ⟨v, _, _, _, h3, _⟩ := hks p hp
    exact SqT.of h3
  have ha' : H1 a = none := ha
  refine ⟨a, L, rfl, upd_same, fun p hp => ?_, fun ys p hp hnd hpn => ?_⟩
  · obtain ⟨v, _, _, _, h3, h4⟩ := hks p (hL1 p hp)
    exact ⟨SqT.of (same_new ha' _ _ h3), _, _, h4⟩
  -- what comes back
  have hyv : ∀ y ∈ ys, ∃ v ∈ us, y = v := fun y hy => by
    obtain ⟨p, hp', e⟩ := List.mem_map.mp (hp.mem_iff.mp hy)
    obtain ⟨v, hv, h1, _⟩ := hks p (hL1 p hp')
    exact ⟨v, hv, by rw [← e, ← h1]⟩
  have hsame : Same H1 (upd H1 a (SetTO S.P S.w a L)) := same_new ha'
  have hys : Ats (Mx M ad ρ) H1 ((ys.map (kOf H1)).map pI) ys := ats_of_pairs fun y hy => by
    obtain ⟨v, hv, rfl⟩ := hyv y hy
    exact e2 y hv
  have hpn1 : H1 p = none := by
    cases z : H1 p with
    | none => rfl
    | some o => rw [hsame _ _ z] at hpn; cases hpn
  refine q n1 p ys _ _ (E.fresh_back k1 j1 hpn1) ((k1.trans (Kw.of hsame)).trans (Kw.of (same_new hpn))) (g.js _ _ _ (g.js _ _ _ j1 hsame) (same_new hpn)) upd_same (((hys.more hpn1).same hsame).same (same_new hpn)) (kk _ (fun m hm => ?_) (fun m hm => ?_) ?_)
  · obtain ⟨y, hy, rfl⟩ := List.mem_map.mp hm
    obtain ⟨v, hv, rfl⟩ := hyv y hy
    rw [← e1]
    exact List.mem_map_of_mem hv
  · rw [← e1] at hm
    obtain ⟨v, hv, rfl⟩ := List.mem_map.mp hm
    have hk2 := hL2 (ad2 v, [(kOf H1 v).1, (kOf H1 v).2]) (List.mem_map_of_mem hv)
    obtain ⟨p2, hp2, e⟩ := List.mem_map.mp hk2
    obtain ⟨v2, hv2, h1, _, _, h4⟩ := hks p2 (hL1 p2 hp2)
    have hy2 : V.ref p2.1 ∈ ys := hp.mem_iff.mpr (List.mem_map.mpr ⟨p2, hp2, rfl⟩)
    refine List.mem_map.mpr ⟨_, hy2, ?_⟩
    rw [← h1]
    rw [h4] at e
    injection e with e3 e4
    injection e4 with e4 _
    exact Prod.ext e3 e4
  · refine nodup_len ?_ fun m hm => ?_
    · have hp2 : (ys.map (kOf H1)).Perm (L.map fun q => kOf H1 (V.ref q.1)) := by
        have := hp.map (kOf H1)
        rw [List.map_map] at this
        exact this
      refine hp2.nodup_iff.mpr (List.pairwise_map.mpr (List.Pairwise.imp_of_mem (fun {a b} ha hb hne e => hne ?_) (List.pairwise_map.mp hnd)))
      obtain ⟨v1, _, h1, _, _, h4⟩ := hks a (hL1 a ha)
      obtain ⟨v2, _, h2, _, _, h5⟩ := hks b (hL1 b hb)
      rw [h4, h5, h1, h2, e]
    · obtain ⟨y, hy, rfl⟩ := List.mem_map.mp hm
      obtain ⟨v, hv, rfl⟩ := hyv y hy
      rw [← e1]
      exact List.mem_map_of_mem hv
end
end Kb
namespace Kb
open PySem PySem.Spec PyProof.Rows L2
/-! ### enumerate(tuple) -/
def IteT (K : PySem.W.Frag) (a : Addr) : It :=
  ⟨fun i H => ∃ (xs : List V) (x : V), SqT K H a xs ∧ xs[i]? = some x, fun i H v H' => ∃ T x, v = .ref T ∧ H T = none ∧ H' = upd H T (.tup [.int (i : Nat), x]) ∧ ∀ xs, SqT K H a xs → xs[i]? = some x, fun i H => ∃ xs : List V, SqT K H a xs ∧ xs.length = i⟩
theorem turn_enumT {P : Program} {w : World} {K : PySem.W.Frag} {elts : List Expr} {kk : Nat} {tpos : Pos} (a e it : Addr) :
    Turn P w K (.Tuple elts kk tpos) (IteT K a) [e, it] e (fun i h => (∃ old, IsEnum h e it ((i : Nat) : Int) old) ∧ h.IsTupleIter it a i ∧ e ≠ it ∧ a ≠ it ∧ a ≠ e) where
  mem := by simp
  obj := fun i h st b hb => by
    obtain ⟨⟨old, he⟩, ⟨o, ho, hc, hd⟩, _⟩ := st
    have e' : b = e ∨ b = it := by simpa using hb
    rcases e' with z | z
    · rw [z]; exact ⟨_, he, fun v q => nomatch q⟩
    · rw [z]; exact ⟨o, ho, fun v q => by rw [hd] at q; cases q⟩
  keep := fun i h h' st k => let ⟨⟨old, he⟩, hi, hne⟩ := st; ⟨⟨old, k e (by simp) _ he⟩, hi.at fun o q => k it (by simp) o q, hne⟩
  item := by
    intro X hP hw hK hc i pins s σ H E I hf st hg
    subst hP hw hK
    obtain ⟨⟨old, he⟩, hit, hne, hai, hae⟩ := st
    obtain ⟨xs, x, hq, hx⟩ := hg
    obtain ⟨its, rv, p, hz⟩ := I.tuple hq
    have hp : s.heap.IsTuple a its.toArray := p
    obtain ⟨u, hu, ru⟩ := rv.get hx
    have hel : e < s.heap.objs.size := Heap.lt_size he
    have hil : it < s.heap.objs.size := by obtain ⟨_, q, _⟩ := hit; exact Heap.lt_size q
    refine wpAny_pyNext_enum_itemD (Draws.tuple (A := X.A.in1) (I.ok.hd hc) it a hai its.toArray) he ⟨hit, hp⟩ (by simpa using (List.getElem?_eq_some_iff.mp hu).1) hne (by simp [hne, hae.symm]) fun x' h' tk hPx ho hst hT hsz hk => ?_
    have ex : x' = u := by
      have : its[i]? = some x' := by simpa using hPx
      rw [hu] at this
      cases this
      rfl
    subst ex
    refine ⟨_, rfl, wpAny_letOwnedTupleGo_enum (s := { s with heap := h', toks := tk + 1 }) ho fun h'' he' sb => ?_⟩
    have hT2 : h''.get? s.heap.objs.size = some { cls := .type "tuple", data := .seq #[.int i tk, x'] } := (sb.2 _ (Nat.ne_of_gt hel)).trans hT
    have new : ObjOk X.prog X.w (upd H s.heap.objs.size (.tup [.int (i : Nat), x])) h'' s.heap.objs.size (.tup [.int (i : Nat), x]) :=
      ⟨by show 2 ≤ sizeLine; decide, [.int i tk, x'], .cons ⟨_, rfl⟩ (.cons ru .nil), ⟨_, hT2, rfl, _, rfl⟩⟩
    have I1 : Inv X pins σ (upd H s.heap.objs.size (.tup [.int (i : Nat), x])) { s with heap := h'', toks := tk + 1 } :=
      I.turnedNew (ch := [e, it]) (fun b ob hb q => (sb.2 b (fun z => hb (by simp [z]))).trans (hk b ob (fun z => hb (by simp [z])) (fun z => hb (by simp [z])) q)) hf (Nat.le_refl _) new
    refine ⟨.ref s.heap.objs.size, _, I1, rfl, ⟨_, x, rfl, I.hok.fresh (Nat.le_refl _), rfl, fun ys hy => by rw [I.tuple_inj hy hq]; exact hx⟩, ⟨⟨x', ?_⟩, hst.1.at fun o q => (sb.2 it (Ne.symm hne)).trans q, hne, hai, hae⟩, fun b hb => ?_⟩
    · have e1 : ((i + 1 : Nat) : Int) = (i : Int) + 1 := by omega
      rw [e1]; exact he'
    · have hb' : b < s.heap.objs.size := by
        have e' : b = e ∨ b = it := by simpa using hb
        rcases e' with z | z
        · rw [z]; exact hel
        · rw [z]; exact hil
      rw [upd_ne (Nat.ne_of_lt hb')]
      exact (hf b hb).1
  done := by
    intro X hP hw hK hc i pins s σ H E I hf st hg
    subst hP hw hK
    obtain ⟨⟨old, he⟩, hit, hne, hai, hae⟩ := st
    obtain ⟨xs, hq, hx⟩ := hg
    obtain ⟨its, rv, p, hz⟩ := I.tuple hq
    have hp : s.heap.IsTuple a its.toArray := p
    obtain ⟨f0, f1, f2, f3, f4, f5⟩ := hf it (by simp)
    have hl := rv.length
    have en : its.toArray.size = i := by rw [List.size_toArray, ← hl]; exact hx
    exact wpAny_pyNext_enum_endD (Draws.tuple (A := X.A.in1) (I.ok.hd hc) it a hai its.toArray) he (by rw [en]; exact ⟨hit, hp⟩) fun h' eb => ⟨rfl, I.turned (t' := s.toks) (fun b o hb q => eb b o hb q) f0 f1 f3 f4 f5⟩
  self := fun A i s Q E st h => let ⟨⟨_, he⟩, _⟩ := st; wpAny_pyIter_enum he h
theorem meets_enumT {v : Value} {o : Obj} {H : Heap → Prop} (B : Begins v o H) :
    Meets (Builtin.«enumerate.__new__» ⟨[.type "enumerate", v], []⟩) (fun _ R s => H s.heap ∧
      R (.ok (.ret (.ref (s.heap.push o).objs.size))) { s with heap := (s.heap.push o).push { cls := .type "enumerate", data := .fields #[.none, .bool false, .ref s.heap.objs.size, rawInt 0, .none, .none] } }) :=
  .of_wp fun prog w A R s h => by
    obtain ⟨hp, g, d, tk, os⟩ := s; obtain ⟨h1, h⟩ := h
    have hsub := sub_enumerate
    have q1 : ∀ {A' : Around} {E : Value → Shared → Prop} {Q : Value → Shared → Prop}, Q (.ref hp.objs.size) ⟨hp.push o, g, d, tk, os⟩ → wpAny (model prog w) A' (pyIter v) Q E ⟨hp, g, d, tk, os⟩ :=
      fun q => B.iter prog w _ _ ⟨hp, g, d, tk, os⟩ _ h1 q
    wp_walk using q1
    refine wpAny_stack_any fun st => wpAny_pure ?_
    split
    · rename_i c _ _ _ _ _
      cases (c == Value.type "enumerate")
      · wp_walk using q1
        exact ⟨_, rfl, h⟩
      · wp_walk using q1
        exact ⟨_, rfl, h⟩
    · wp_walk using q1
      exact ⟨_, rfl, h⟩
theorem call_enumT {prog : Program} {w : World} {A : Around} {E : Value → Shared → Prop} {s : Shared} {l : Addr} {items : Array Value} {Q : Value → Shared → Prop} (hL : s.heap.IsTuple l items)
    (h : ∀ h', IsEnum h' (s.heap.objs.size + 1) s.heap.objs.size 0 .none → h'.IsTupleIter s.heap.objs.size l 0 → (∀ b o, s.heap.get? b = some o → h'.get? b = some o) → Q (.ref (s.heap.objs.size + 1)) { s with heap := h' }) :
    wpAny (model prog w) A (call (.type "enumerate") [.ref l]) Q E s := by
  refine callType_new F.called_enumerate (by decide) (F.typeCall_enumerate_1 _) (F.newCall_enumerate_1 _) (fun obj => F.args_object_init_2 obj _) F.entry_enumerate_new
    (meets_enumT (begins_tuple l items)) ⟨hL, ?_⟩
  have hz : (s.heap.push { cls := .type "tuple_iterator", data := .fields #[.ref l, .int 0 0] }).objs.size = s.heap.objs.size + 1 := Heap.size_push ..
  show _ ∧ _
  rw [hz]
  have he : IsEnum ((s.heap.push { cls := .type "tuple_iterator", data := .fields #[.ref l, .int 0 0] }).push
      { cls := .type "enumerate", data := .fields #[.none, .bool false, .ref s.heap.objs.size, rawInt 0, .none, .none] }) (s.heap.objs.size + 1) s.heap.objs.size 0 .none := by
    have := Heap.get?_push_size (s.heap.push { cls := .type "tuple_iterator", data := .fields #[.ref l, .int 0 0] })
      (o := { cls := .type "enumerate", data := .fields #[.none, .bool false, .ref s.heap.objs.size, rawInt 0, .none, .none] }) rfl
    rw [hz] at this; exact this
  refine ⟨⟨_, he, rfl⟩, h _ he ⟨_, Heap.get?_push_of_some _ (Heap.get?_push_size _ rfl), rfl, rfl⟩ fun b o x => Heap.get?_push_of_some _ (Heap.get?_push_of_some _ x)⟩
def iEnumT (K : PySem.W.Frag) (ta : TA) : TI := fun σ H R => ta σ H fun vs H1 => ∃ a xs, vs = [.ref a] ∧ SqT K H1 a xs ∧ R (IteT K a) H1
theorem pi_enumT {X : Cx} {e : Expr} {ta : TA} {p pos tpos : Pos} {elts : List Expr} {kk : Nat} (hg : Gl X "enumerate") (hm : X.mg "enumerate" = none) (ha : PA X [e] ta) (hs : starEach [e] X.env = [(false, eval e X.env)] := by rfl) :
    PI X (.Tuple elts kk tpos) (.Call (.Name "enumerate" p) [e] [] pos) (iEnumT X.K ta) := by
  refine ⟨fun pins s σ H R I h => ?_⟩
  refine Call_ (ld_blt I hg hm boot_enumerate (PyProof.Rows.callWith_type1 (thn (ha.run pos pins s σ H _ I h) fun us s1 ⟨vs, H1, I1, r1, q1⟩ => ?_) hs rfl))
  obtain ⟨a, xs, ex, hq, q⟩ := q1
  subst ex
  cases r1 with
  | cons r rr =>
    cases rr
    cases r
    obtain ⟨its, rv, p', hz⟩ := I1.tuple hq
    have hp : s1.heap.IsTuple a its.toArray := p'
    have hal : @LT.lt Nat _ a s1.heap.objs.size := by
      obtain ⟨o, e, _⟩ := id hp
      exact Heap.lt_size e
    refine call_enumT hp fun h' he hit hk => wpAny_pyIter_enum he ?_
    have I2 : Inv X pins σ H1 { s1 with heap := h' } := I1.kept (t' := s1.toks) hk
    refine ⟨s1.heap.objs.size + 1, [s1.heap.objs.size + 1, s1.heap.objs.size], _, _, H1, rfl, I2, turn_enumT a (s1.heap.objs.size + 1) s1.heap.objs.size, ⟨⟨.none, he⟩, hit, Nat.succ_ne_self _, Nat.ne_of_lt hal, Nat.ne_of_lt (Nat.lt_succ_of_lt hal)⟩, fun b hb => ?_, q⟩
    have e' : b = s1.heap.objs.size + 1 ∨ b = s1.heap.objs.size := by simpa using hb
    have hle : s1.heap.objs.size ≤ b := by
      rcases e' with z | z
      · rw [z]; exact Nat.le_add_right _ _
      · rw [z]; exact Nat.le_refl _
    exact I1.fpOk hle (I1.hok.fresh hle)
section
variable {S : Sg} {g : Wd} {e a b c : Expr} {es : List Expr} {ρ : En} {n : Nat} {pos p q kp cp : Pos} {x : Str} {kc : Nat}
theorem yl_enumT {K : PySem.W.Frag} {M1 : Mu} {H1 : Hp} {a : Addr} {vs : List V} {xs : List Dat} (na : ¬ M1 a) (ha : H1 a = some (.tup vs)) (s : Ats M1 H1 xs vs) : Yl M1 H1 (IteT K a) (xs.zipIdx.map fun p => .tup [.int (p.2 : Nat), p.1]) := fun H2 M2 k al m => by
  have h2 := k a _ na ha
  refine ⟨fun i x e => ?_, ⟨vs, SqT.of h2, by rw [List.length_map, List.length_zipIdx, s.len]⟩⟩
  rw [List.getElem?_map, List.getElem?_zipIdx] at e
  cases ex : xs[i]? with
  | none => rw [ex] at e; cases e
  | some d =>
    rw [ex] at e
    cases e
    obtain ⟨v, e1, e2⟩ := s.get ex
    refine ⟨⟨vs, v, SqT.of h2, e1⟩, fun u H3 y => ?_⟩
    obtain ⟨T, w, rfl, hT, rfl, y⟩ := y
    have eu : w = v := Option.some.inj ((y vs (SqT.of h2)).symm.trans e1)
    subst eu
    refine ⟨same_new hT, At.tup (fun z => ?_) upd_same (Ats.cons ?_ (Ats.one ((e2.shift k m).same (same_new hT))))⟩
    · obtain ⟨o, q⟩ := al T z
      rw [hT] at q
      cases q
    · rw [Nat.zero_add]
      exact At.int
theorem edi_enumT {xs : List Dat} {elts : List Expr} {kk : Nat} {tpos : Pos} (hg : glB S.sc "enumerate" = true) (hm : S.mg "enumerate" = none) (h : Ed S g e ρ (.tup xs)) (hs : ∀ env, starEach [e] env = [(false, eval e env)] := by intro _; rfl) : EdI S g (.Tuple elts kk tpos) (.Call (.Name "enumerate" p) [e] [] pos) ρ (xs.zipIdx.map fun p => .tup [.int (p.2 : Nat), p.1]) := fun n M Hb ad σ H E R q =>
  ⟨iEnumT S.K (tCons (wE S e) tNil), fun X c => by rw [← c.K]; exact pi_enumT (gl_of c hg) (by rw [c.mg]; exact hm) (pa_cons (wE_ok c) pa_nil (hs _)) (hs _), h n M Hb ad σ H E _ fun n' v H' d k j a ⟨e1, e2⟩ => by
    subst e1 e2
    obtain ⟨b, vs, rfl, nb, hb, sb⟩ := at_tup a
    exact ⟨b, vs, rfl, SqT.of hb, q _ _ H' _ k j (yl_enumT nb hb sb) ⟨rfl, rfl⟩⟩⟩
/-! ### t[::2], t[1::2] -/
def stepL {α : Type} (lo : Option Int) (xs : List α) : List α := (List.range (Builtin.Slice.slicePlaces (Builtin.Slice.sliceAdjust lo none 2 (xs.length : Nat)).1 (Builtin.Slice.sliceAdjust lo none 2 (xs.length : Nat)).2 2)).filterMap fun (k : Nat) => xs[((Builtin.Slice.sliceAdjust lo none 2 (xs.length : Nat)).1 + (k : Int) * 2).toNat]?
theorem sliceApplied2 {prog : Program} {w : World} {A : Around} {E : Value → Shared → Prop} {s : Shared} {sl : Addr} {vl vu vs : Value} {lo : Option Int} {n : Nat} {Q : Int × Int × Nat → Shared → Prop} (hs : s.heap.IsSliceOf sl vl vu vs) (pl : IsPart vl lo) (pu : IsPart vu none) (ps : IsPart vs (some 2))
    (h : Q ((Builtin.Slice.sliceAdjust lo none 2 (n : Int)).1, 2, Builtin.Slice.slicePlaces (Builtin.Slice.sliceAdjust lo none 2 (n : Int)).1 (Builtin.Slice.sliceAdjust lo none 2 (n : Int)).2 2) s) : wpAny (model prog w) A (Builtin.Slice.sliceApplied (.ref sl) (pure (n : Int))) Q E s := by
  obtain ⟨os, hos, hcs, hds⟩ := id hs
  unfold Builtin.Slice.sliceApplied Builtin.Slice.sliceFields
  refine wpAny_bind (wpAny_bind (wpAny_field hos hds (x := vl) rfl (wpAny_bind (wpAny_field hos hds (x := vu) rfl (wpAny_bind (wpAny_field hos hds (x := vs) rfl (wpAny_pure ?_)))))))
  refine wpAny_bind (HT.slicePart_ ps ?_)
  show wpAny _ _ (if ((2 : Int) == 0) = true then _ else _) _ _ s
  rw [if_neg (by decide)]
  refine wpAny_bind (HT.slicePart_ pl (wpAny_bind (HT.slicePart_ pu (wpAny_bind (wpAny_pure ?_)))))
  show wpAny _ _ (match Builtin.Slice.sliceAdjust lo none 2 (n : Int) with | (lo, hi) => pure (lo, (2 : Int), Builtin.Slice.slicePlaces lo hi 2)) _ _ s
  exact wpAny_pure h
theorem getItem_tup2 {prog : Program} {w : World} {A : Around} {E : Value → Shared → Prop} {s : Shared} {t sl : Addr} {items : List Value} {vl vu vs : Value} {lo : Option Int} {Q : Value → Shared → Prop} (ht : IsTup s.heap t items.toArray) (hs : s.heap.IsSliceOf sl vl vu vs) (pl : IsPart vl lo) (pu : IsPart vu none) (ps : IsPart vs (some 2))
    (h : Q (.ref s.heap.objs.size) { s with heap := s.heap.push { cls := .type "tuple", data := .seq (stepL lo items).toArray } }) (hsz : (stepL lo items).length ≤ sizeLine) : wpAny (model prog w) A (getItem (.ref t) (.ref sl)) Q E s := by
  have htake : sizeOk (.seq (stepL lo items).toArray) := by
    show (stepL lo items).toArray.size ≤ sizeLine
    rw [List.size_toArray]
    exact hsz
  obtain ⟨os, hos, hcs, hds⟩ := id hs
  have hTs : s.TypeIs (.ref sl) "slice" := ⟨os, hos, hcs⟩
  unfold getItem
  try with_reducible refine wpAny_holding ?_
  first | refine wpAny_bind (wpAny_pure ?_) | skip
  refine wpAny_bind (wpAny_sequenceKey ht.typeIs (by decide) ?_)
  refine wpAny_bind (wpAny_callSpecial?_slot (name := Str.ofString "__getitem__") ht.typeIs PyProof.Rows.slot_tuple_getitem
    (wpAny_call_entry PyProof.Rows.slot_tuple_getitem ht.typeIs PyProof.Rows.entry_tuple_getitem ?_ (PyProof.Rows.args_tuple_getitem _ _)))
  show wpAny _ _ (Builtin.Tuple.tupleItemsOf (.ref t) >>= _) _ _ s
  refine wpAny_bind (PyProof.Rows.tupleItemsOf_ ht ?_)
  refine wpAny_bind (wpAny_typeOf hTs ?_)
  rw [if_pos (by decide)]
  refine wpAny_bind (sliceApplied2 (n := items.toArray.size) hs pl pu ps ?_)
  rw [List.size_toArray]
  show wpAny _ _ (if ((Builtin.Slice.sliceAdjust lo none 2 (items.length : Int)).1 == 0 && (2 : Int) == 1 && (Builtin.Slice.slicePlaces (Builtin.Slice.sliceAdjust lo none 2 (items.length : Int)).1 (Builtin.Slice.sliceAdjust lo none 2 (items.length : Int)).2 2) == items.toArray.size) = true then _ else _) _ _ s
  rw [if_neg (by simp)]
  have e : ((List.range (Builtin.Slice.slicePlaces (Builtin.Slice.sliceAdjust lo none 2 (items.length : Int)).1 (Builtin.Slice.sliceAdjust lo none 2 (items.length : Int)).2 2)).filterMap fun (k : Nat) => items.toArray[((Builtin.Slice.sliceAdjust lo none 2 (items.length : Int)).1 + (k : Int) * 2).toNat]?) = stepL lo items := by
    unfold stepL
    simp only [List.getElem?_toArray]
  rw [e]
  first
    | exact wpAny_bind (m := Builtin.Tuple.tupleExact _) (wpAny_newObj_type (wpAny_pure ⟨_, rfl, wpAny_pure h⟩) htake)
    | exact wpAny_bind (m := Builtin.Tuple.tupleExact _) (wpAny_newObj_type (wpAny_bind (wpAny_pure (wpAny_pure ⟨_, rfl, wpAny_pure h⟩))) htake)
    | exact wpAny_bind (wpAny_bind (m := Builtin.Tuple.tupleExact _) (wpAny_newObj_type (wpAny_pure (wpAny_pure ⟨_, rfl, wpAny_pure h⟩)) htake))
    | exact wpAny_bind (wpAny_bind (m := Builtin.Tuple.tupleExact _) (wpAny_newObj_type (wpAny_pure ⟨_, rfl, wpAny_pure h⟩) htake))
def tStep (K : PySem.W.Frag) (lo : Option Int) (te : TE) : TE := fun σ H Q => te σ H fun x H1 => ∃ a xs, x = .ref a ∧ SqT K H1 a xs ∧ xs.length ≤ 1000 ∧ ∀ p, H1 p = none → Q (.ref p) (upd H1 p (.tup (stepL lo xs)))
theorem Vals.fm {us : List V} {ws : List Value} (r : Vals us ws) (f : Nat → Nat) : ∀ l : List Nat, Vals (l.filterMap fun k => us[f k]?) (l.filterMap fun k => ws[f k]?)
  | [] => .nil
  | k :: l => by
    rw [List.filterMap_cons, List.filterMap_cons]
    cases e : us[f k]? with
    | none =>
      rw [List.getElem?_eq_none (by rw [← r.length]; exact List.getElem?_eq_none_iff.mp e)]
      exact Vals.fm r f l
    | some u =>
      obtain ⟨w, e1, e2⟩ := r.get e
      rw [e1]
      exact .cons e2 (Vals.fm r f l)
theorem stepL_vals {us : List V} {ws : List Value} (r : Vals us ws) (lo : Option Int) : Vals (stepL lo us) (stepL lo ws) := by
  unfold stepL
  rw [r.length]
  exact Vals.fm r _ _
theorem stepL_ats {M : Mu} {H : Hp} {ds : List Dat} {vs : List V} (h : Ats M H ds vs) (lo : Option Int) : Ats M H (stepL lo ds) (stepL lo vs) := by
  have fm : ∀ (f : Nat → Nat) (l : List Nat), Ats M H (l.filterMap fun k => ds[f k]?) (l.filterMap fun k => vs[f k]?) := by
    intro f l
    induction l with
    | nil => exact Ats.nil
    | cons k l ih =>
      rw [List.filterMap_cons, List.filterMap_cons]
      cases e : ds[f k]? with
      | none =>
        rw [List.getElem?_eq_none (by rw [h.len]; exact List.getElem?_eq_none_iff.mp e)]
        exact ih
      | some u =>
        obtain ⟨w, e1, e2⟩ := h.get e
        rw [e1]
        exact Ats.cons e2 ih
  unfold stepL
  rw [h.len]
  exact fm _ _
theorem stepL_len {α : Type} (lo : Option Int) (hlo : lo = none ∨ lo = some 1) (xs : List α) : (stepL lo xs).length ≤ xs.length + 1 := by
  unfold stepL
  refine Nat.le_trans (List.length_filterMap_le _ _) ?_
  rw [List.length_range]
  unfold Builtin.Slice.slicePlaces Builtin.Slice.sliceAdjust
  rcases hlo with rfl | rfl
  · simp
    split <;> omega
  · simp
    split <;> omega
theorem pe_step {X : Cx} {e : Expr} {te : TE} {lo : Option Expr} {l : Option Int} {k : Nat} {p1 p3 pos : Pos} (he : PE X e te) (hlo : l = none ∨ l = some 1) (hl : PO X lo (fun _ H Q => Q l H)) : PE X (.Subscript e (.Slice lo none (some (.Constant (.int 2) k p1)) p3) pos) (tStep X.K l te) := by
  refine ⟨fun pins s σ H Q I h => ?_⟩
  refine Subscript_ (thn (he.run pins s σ H _ I h) fun v s1 ⟨x, H1, I1, r1, q1⟩ => ?_)
  obtain ⟨a, xs, ex, hx, hz, q⟩ := q1
  subst ex
  cases r1
  have hst : PO X (some (.Constant (.int 2) k p1)) (tPart (tC (.int 2))) := po_some pe_int
  refine wpAny_Slice (thn (hl.run pins s1 σ H1 (fun o H2 => o = l ∧ H2 = H1) I1 ⟨rfl, rfl⟩) fun vl s2 ⟨l', H2, I2, pl, el, e2⟩ => ?_)
  subst el e2
  refine thn (po_none.run pins s2 σ H2 (fun o H3 => o = none ∧ H3 = H2) I2 ⟨rfl, rfl⟩) fun vu s3 ⟨u, H3, I3, pu, eu, e3⟩ => ?_
  subst eu e3
  refine thn (hst.run pins s3 σ H3 (fun o H4 => o = some 2 ∧ H4 = H3) I3 ⟨2, rfl, rfl, rfl⟩) fun vs s4 ⟨o, H4, I4, ps, eo, e4⟩ => ?_
  subst eo e4
  have I5 : Inv X pins σ H4 { s4 with heap := s4.heap.push { cls := .type "slice", data := .fields #[vl, vu, vs] } } := I4.kept (t' := s4.toks) fun b ob q => Heap.get?_push_of_some _ q
  obtain ⟨its, r, ht, hz'⟩ := I5.tuple hx
  have hlen := r.length
  have h2 := stepL_len l' hlo its
  have h1000 : 1001 ≤ sizeLine := by decide
  show wpAny (model X.prog X.w) X.A (subscriptTail e (.Slice lo none (some (.Constant (.int 2) k p1)) p3) (.ref a) (.ref s4.heap.objs.size)) (EP X pins σ Q) X.xe { s4 with heap := s4.heap.push { cls := .type "slice", data := .fields #[vl, vu, vs] } }
  refine tail_any (ops := [.ref a, .ref s4.heap.objs.size]) ht.typeIs PyProof.Rows.slot_tuple_getitem.lookup ?_ (by with_unfolding_all rfl)
  refine getItem_tup2 ht (Heap.IsSliceOf.new _ vl vu vs) pl pu ps ?_ (by omega)
  refine ⟨.ref _, _, I5.laid (t' := s4.toks) (o := .tup (stepL l' xs)) (fun b ob q => Heap.get?_push_of_some _ q) (Nat.le_refl _) ?_, rfl, q _ (I5.hok.fresh (Nat.le_refl _))⟩
  have h3 := stepL_len l' hlo xs
  exact ⟨by omega, _, stepL_vals r l', IsTup.new _ _⟩
theorem ed_step {xs : List Dat} {lo : Option Expr} {l : Option Int} {k : Nat} {p1 p3 : Pos} (h : Ed S g e ρ (.tup xs)) (hlo : l = none ∨ l = some 1) (hz : xs.length ≤ 1000) (hl : ∀ X, PO X lo (fun _ H Q => Q l H)) : Ed S g (.Subscript e (.Slice lo none (some (.Constant (.int 2) k p1)) p3) pos) ρ (.tup (stepL l xs)) := fun n M Hb ad σ H E Q q =>
  ⟨tStep S.K l (wE S e), fun X c => by rw [← c.K]; exact pe_step (wE_ok c) hlo (hl X), h n M Hb ad σ H E _ fun n1 v H1 d k j a ⟨e1, e2⟩ => by
    subst e1 e2
    obtain ⟨b, us, rfl, nb, hb, sb⟩ := at_tup a
    exact ⟨b, us, rfl, SqT.of hb, by rw [sb.len]; exact hz, fun p hp => q _ _ _ _ (k.trans (Kw.of (same_new hp))) (g.js _ _ _ j (same_new hp)) (At.tup ((E.keep k j).mfresh hp) upd_same ((stepL_ats sb l).same (same_new hp))) ⟨rfl, rfl⟩⟩⟩
theorem po_one {X : Cx} {k : Nat} {p : Pos} : PO X (some (.Constant (.int 1) k p)) (fun _ H Q => Q (some 1) H) := ⟨fun pins s σ H Q I h => (po_some (X := X) (pe_int (j := k) (pos := p))).run pins s σ H Q I ⟨1, rfl, h⟩⟩
theorem po_nil {X : Cx} : PO X none (fun _ H Q => Q none H) := po_none
end
end Kb
/-! the program's defs, one by one -/
namespace Kb
open PySem PySem.Spec PyProof.Rows L2
abbrev Bd (k : Nat) (i : Int) : Prop := i.natAbs < 2 ^ k
theorem Bd.mono {j k : Nat} {i : Int} (h : Bd j i) (l : j ≤ k) : Bd k i := Nat.lt_of_lt_of_le h (Nat.pow_le_pow_right (by decide) l)
theorem bd_add {k : Nat} {a b : Int} (h : Bd k a) (h' : Bd k b) : Bd (k + 1) (a + b) := by
  unfold Bd at *
  rw [Nat.pow_succ]
  have := Int.natAbs_add_le a b
  omega
theorem bd_neg {k : Nat} {a : Int} (h : Bd k a) : Bd k (-a) := by unfold Bd at *; rw [Int.natAbs_neg]; exact h
theorem bd_sub {k : Nat} {a b : Int} (h : Bd k a) (h' : Bd k b) : Bd (k + 1) (a - b) := by rw [Int.sub_eq_add_neg]; exact bd_add h (bd_neg h')
theorem bd_mul {j k : Nat} {a b : Int} (h : Bd j a) (h' : Bd k b) : Bd (j + k) (a * b) := wide_lt h h'
theorem cm {j k : Nat} {a b : Int} (h : Bd j a) (h' : Bd k b) (hj : 0 < j := by decide) (hk : 0 < k := by decide) (l : j + k ≤ 1000000 := by decide) : CMulW a b := wide_mul h h' hj hk l
def vadd (a b : List Int) : List Int := List.zipWith (· + ·) a b
def vsc (f : Int) (a : List Int) : List Int := a.map (f * ·)
def vless (a b : List Int) : List Int := vadd a (vsc (-1) b)
abbrev N_scaled : List Str := ["factor", "form", "number"]
theorem sc_scaled : FnScope N_scaled ["factor", "form"] (defScope s_scaled) := ⟨rfl, rfl, rfl, by decide +kernel, rfl, by decide +kernel, by decide +kernel⟩
def R_scaled (ds : List Dat) (d : Dat) : Prop := ∃ (f : Int) (l : List Int), ds = [.int f, tI l] ∧ l.length ≤ 1000 ∧ (∀ x ∈ l, CMulW f x) ∧ d = tI (vsc f l)
theorem ok_scaled {G : Gc} (H : Head G) : HasF G "scaled" 1 2 (PureSp 2 R_scaled) := by
  refine H.pure (st := s_scaled) (ps := ["factor", "form"]) 0 0 (by kernel_rfl) (by kernel_rfl) sc_scaled (fun _ _ _ _ _ _ us hl => match us, hl with | [_, _], _ => rfl) fun A hr ds d hl hR => ?_
  have nd := sc_scaled.nd
  obtain ⟨f, l, rfl, hlen, hb, rfl⟩ := hR
  refine x_one (x_ret (Ed.ev (ed_tupleL (by kernel_rfl) (H.free 78) (EdN.ed (edn_lcm nd [("number", 2)] (by kernel_rfl) (ys := l) (enc := .int) (edi_tup (ed_nm 1 (by kernel_rfl) rfl)) hlen
    (fun y hy => ⟨_, _, (fun _ z => z), gd_nm nd 2 (by kernel_rfl), ed_op (ed_nm 0 (by kernel_rfl) rfl) (ed_nm 2 (by kernel_rfl) rfl) (o_mul (hb y hy))⟩)))) ?_))
  simp [tI, vsc]
abbrev N_added : List Str := ["one", "other", "a", "b"]
theorem sc_added : FnScope N_added ["one", "other"] (defScope s_added) := ⟨rfl, rfl, rfl, by decide +kernel, rfl, by decide +kernel, by decide +kernel⟩
theorem zp2_ints (a b : List Int) : zp2 (a.map .int) (b.map .int) = (a.zip b).map fun p => .tup [.int p.1, .int p.2] := by
  unfold zp2
  rw [List.zip_map, List.map_map]
  rfl
def R_added (ds : List Dat) (d : Dat) : Prop := ∃ a b : List Int, ds = [tI a, tI b] ∧ a.length = b.length ∧ a.length ≤ 1000 ∧ d = tI (vadd a b)
theorem ok_added {G : Gc} (H : Head G) : HasF G "added" 1 2 (PureSp 2 R_added) := by
  refine H.pure (st := s_added) (ps := ["one", "other"]) 1 1 (by kernel_rfl) (by kernel_rfl) sc_added (fun _ _ _ _ _ _ us hl => match us, hl with | [_, _], _ => rfl) fun A hr ds d hl hR => ?_
  have nd := sc_added.nd
  obtain ⟨a, b, rfl, hlen, hz, rfl⟩ := hR
  refine x_one (x_ret (Ed.ev (ed_tupleL (by kernel_rfl) (H.free 78) (EdN.ed (edn_lcm nd [("a", 2), ("b", 3)] (by kernel_rfl) (ys := a.zip b) (enc := fun p => .tup [.int p.1, .int p.2]) ((edi_zips2 (by kernel_rfl) (H.free 79) (ed_nm 0 (by kernel_rfl) rfl) (ed_nm 1 (by kernel_rfl) rfl) (by exact rfl) (by exact rfl) (by simpa using hlen)).is (zp2_ints a b)) (by rw [List.length_zip]; omega) (fun y hy => ⟨_, _, (fun _ z => z), (gd_tup (gds_cons (gd_nm nd 2 (by kernel_rfl)) (gds_cons (gd_nm nd 3 (by kernel_rfl)) gds_nil))), (ed_op (ed_nm 2 (by kernel_rfl) rfl) (ed_nm 3 (by kernel_rfl) rfl) o_add)⟩)))) ?_))
  simp [tI, vadd, List.zip]
abbrev N_less : List Str := ["one", "other"]
theorem sc_less : FnScope N_less ["one", "other"] (defScope s_less) := ⟨rfl, rfl, rfl, by decide +kernel, rfl, by decide +kernel, by decide +kernel⟩
def R_less (ds : List Dat) (d : Dat) : Prop := ∃ a b : List Int, ds = [tI a, tI b] ∧ a.length = b.length ∧ a.length ≤ 1000 ∧ (∀ x ∈ b, Bd 900000 x) ∧ d = tI (vless a b)
theorem ok_less {G : Gc} (H : Head G) : HasF G "less" 2 2 (PureSp 2 R_less) := by
  refine H.pure (st := s_less) (ps := ["one", "other"]) 2 2 (by kernel_rfl) (by kernel_rfl) sc_less (fun _ _ _ _ _ _ us hl => match us, hl with | [_, _], _ => rfl) fun A hr ds d hl hR => ?_
  have nd := sc_less.nd
  obtain ⟨a, b, rfl, hlen, hz, hb, rfl⟩ := hR
  refine x_one (x_ret (Ed.ev (ed_call (ok_added H) (hr.mono (by decide)) (by kernel_rfl) (eda_cons (ed_nm 0 (by kernel_rfl) rfl) (eda_cons (ed_call (ok_scaled H) (hr.mono (by decide)) (by kernel_rfl) (eda_cons (ed_op ed_int ed_int o_sub) (eda_cons (ed_nm 1 (by kernel_rfl) rfl) eda_nil)) ⟨_, _, rfl, ?_, ?_, rfl⟩) eda_nil)) ⟨_, _, rfl, ?_, ?_, rfl⟩) ?_))
  · omega
  · intro x hx
    exact cm (j := 1) (by decide) (hb x hx)
  · simpa [vsc] using hlen
  · exact hz
  · rfl
end Kb
namespace Kb
open PySem PySem.Spec PyProof.Rows L2
/-- a measure -/
inductive Ms where
  | sum (es : List (List (Int × Int))) | max (es : List (List (Int × Int))) | late (ws : List Int)
def eE (l : List (Int × Int)) : Dat := .tup (l.map pI)
def Ms.enc : Ms → Dat
  | .sum es => .tup [.str "sum", .tup (es.map eE)]
  | .max es => .tup [.str "max", .tup (es.map eE)]
  | .late ws => .tup [.str "late", tI ws]
def Ms.len : Ms → Nat
  | .sum es => es.length
  | .max es => es.length
  | .late ws => ws.length
def Ms.terms : Ms → Nat → List (Int × Int)
  | .sum es, k => es.getD k []
  | .max es, k => es.getD k []
  | .late _, _ => []
def Ms.ws : Ms → List Int
  | .late ws => ws
  | _ => []
def okT (l : List (Int × Int)) : Prop := l ≠ [] ∧ l.length ≤ 20 ∧ ∀ p ∈ l, Bd 64 p.1 ∧ Bd 64 p.2
def Ms.Ok : Ms → Prop
  | .sum es => es.length ≤ 20 ∧ ∀ l ∈ es, okT l
  | .max es => es.length ≤ 20 ∧ ∀ l ∈ es, okT l
  | .late ws => ws.length ≤ 20 ∧ ∀ w ∈ ws, 0 < w ∧ Bd 64 w
theorem atI_nat {α : Type} {l : List α} {k : Nat} : atI l (k : Int) = l[k]? := by
  unfold atI ixN
  rw [if_pos (by omega)]
  by_cases h : k < l.length
  · rw [if_pos (by omega)]
    rfl
  · rw [if_neg (by omega), List.getElem?_eq_none (by omega)]
    rfl
theorem ixt_nat {l : List Dat} {k : Nat} {d : Dat} (h : l[k]? = some d) : Ix (.tup l) (k : Int) d := .tup (by rw [atI_nat]; exact h)
theorem ixl_nat {l : List Dat} {k : Nat} {d : Dat} (h : l[k]? = some d) : Ix (.lst l) (k : Int) d := .lst (by rw [atI_nat]; exact h)
theorem get_map {α β : Type} {f : α → β} {l : List α} {k : Nat} {x : α} (h : l[k]? = some x) : (l.map f)[k]? = some (f x) := by rw [List.getElem?_map, h]; rfl
theorem getD_get {α : Type} {l : List α} {k : Nat} {d : α} (h : k < l.length) : l[k]? = some (l.getD k d) := by
  rw [List.getD_eq_getElem?_getD, List.getElem?_eq_getElem h]
  rfl
/-! bounds of forms -/
theorem bd_vadd {k : Nat} : ∀ {a b : List Int}, (∀ x ∈ a, Bd k x) → (∀ x ∈ b, Bd k x) → ∀ x ∈ vadd a b, Bd (k + 1) x
  | [], _, _, _, x, hx => by simp [vadd] at hx
  | _ :: _, [], _, _, x, hx => by simp [vadd] at hx
  | a :: as, b :: bs, h, h', x, hx => by
    rw [show vadd (a :: as) (b :: bs) = (a + b) :: vadd as bs from rfl] at hx
    rcases List.mem_cons.mp hx with z | z
    · rw [z]; exact bd_add (h a List.mem_cons_self) (h' b List.mem_cons_self)
    · exact bd_vadd (fun y hy => h y (List.mem_cons_of_mem _ hy)) (fun y hy => h' y (List.mem_cons_of_mem _ hy)) x z
theorem bd_vsc {j k : Nat} {f : Int} {a : List Int} (hf : Bd j f) (h : ∀ x ∈ a, Bd k x) : ∀ x ∈ vsc f a, Bd (j + k) x := fun x hx => by
  obtain ⟨y, hy, rfl⟩ := List.mem_map.mp hx
  exact bd_mul hf (h y hy)
theorem bd_vless {k : Nat} {a b : List Int} (h : ∀ x ∈ a, Bd k x) (h' : ∀ x ∈ b, Bd k x) : ∀ x ∈ vless a b, Bd (k + 2) x := fun x hx => by
  have := bd_vadd (k := 1 + k) (fun y hy => (h y hy).mono (by omega)) (bd_vsc (f := -1) (j := 1) (by decide) h') x hx
  exact this.mono (by omega)
theorem vadd_len (a b : List Int) : (vadd a b).length = min a.length b.length := by simp [vadd]
theorem vsc_len (f : Int) (a : List Int) : (vsc f a).length = a.length := by simp [vsc]
theorem vless_len (a b : List Int) : (vless a b).length = min a.length b.length := by simp [vless, vadd_len, vsc_len]
/-- a form -/
structure Fm (k : Nat) (a : List Int) : Prop where
  len : a.length = 2
  bd : ∀ x ∈ a, Bd k x
theorem Fm.mono {j k : Nat} {a : List Int} (h : Fm j a) (l : j ≤ k) : Fm k a := ⟨h.len, fun x hx => (h.bd x hx).mono l⟩
theorem Fm.add {k : Nat} {a b : List Int} (h : Fm k a) (h' : Fm k b) : Fm (k + 1) (vadd a b) := ⟨by rw [vadd_len, h.len, h'.len]; rfl, bd_vadd h.bd h'.bd⟩
theorem Fm.sc {j k : Nat} {f : Int} {a : List Int} (hf : Bd j f) (h : Fm k a) : Fm (j + k) (vsc f a) := ⟨by rw [vsc_len, h.len], bd_vsc hf h.bd⟩
theorem Fm.less {k : Nat} {a b : List Int} (h : Fm k a) (h' : Fm k b) : Fm (k + 2) (vless a b) := ⟨by rw [vless_len, h.len, h'.len]; rfl, bd_vless h.bd h'.bd⟩
theorem Fm.cm {j k : Nat} {f : Int} {a : List Int} (h : Fm k a) (hf : Bd j f) (hj : 0 < j := by decide) (hk : 0 < k := by decide) (l : j + k ≤ 1000000 := by decide) : ∀ x ∈ a, CMulW f x := fun x hx => Kb.cm hf (h.bd x hx) hj hk l
theorem Fm.big {k : Nat} {a : List Int} (h : Fm k a) (l : k ≤ 900000 := by decide) : ∀ x ∈ a, Bd 900000 x := fun x hx => (h.bd x hx).mono l
def costF (l : List (Int × Int)) (e d : List Int) : List (List Int) := l.map fun p => vadd (vsc p.1 e) (vsc p.2 d)
theorem costF_fm {l : List (Int × Int)} {e d : List Int} (hl : okT l) (he : Fm 80 e) (hd : Fm 80 d) : ∀ x ∈ costF l e d, Fm 145 x := fun x hx => by
  obtain ⟨p, hp, rfl⟩ := List.mem_map.mp hx
  exact (Fm.sc (hl.2.2 p hp).1 he).add (Fm.sc (hl.2.2 p hp).2 hd)
/-- the entry of a kind, in the datum -/
inductive Ent : Ms → Nat → List (Int × Int) → Prop
  | sum {es : List (List (Int × Int))} {k : Nat} {l : List (Int × Int)} : es[k]? = some l → Ent (.sum es) k l
  | max {es : List (List (Int × Int))} {k : Nat} {l : List (Int × Int)} : es[k]? = some l → Ent (.max es) k l
theorem Ent.ok {m : Ms} {k : Nat} {l : List (Int × Int)} (h : Ent m k l) (ho : m.Ok) : okT l := by
  cases h with
  | sum e => exact ho.2 l (List.mem_of_getElem? e)
  | max e => exact ho.2 l (List.mem_of_getElem? e)
section
variable {S : Sg} {g : Wd} {a b : Expr} {ρ : En} {pos p2 : Pos}
/-- measure[1][k] -/
theorem ed_entry {m : Ms} {k : Nat} {l : List (Int × Int)} {p1 : Pos} {j : Nat} (h : Ent m k l) (h1 : Ed S g a ρ m.enc) (h2 : Ed S g b ρ (.int (k : Nat))) (hs : PlainIx b := by intro _ _; rfl) : Ed S g (.Subscript (.Subscript a (.Constant (.int 1) j p1) p2) b pos) ρ (eE l) := by
  cases h with
  | sum e => exact ed_ix (ed_ix h1 ed_int (by exact .tup rfl)) h2 (ixt_nat (get_map e)) hs
  | max e => exact ed_ix (ed_ix h1 ed_int (by exact .tup rfl)) h2 (ixt_nat (get_map e)) hs
theorem ed_way {m : Ms} {p1 : Pos} {j : Nat} (h1 : Ed S g a ρ m.enc) : Ed S g (.Subscript a (.Constant (.int 0) j p1) pos) ρ (.str (match m with | .sum _ => "sum" | .max _ => "max" | .late _ => "late")) := by
  cases m with
  | sum es => exact ed_ix h1 ed_int (by exact .tup rfl)
  | max es => exact ed_ix h1 ed_int (by exact .tup rfl)
  | late es => exact ed_ix h1 ed_int (by exact .tup rfl)
end
abbrev N_costs_at : List Str := ["measure", "kind", "end", "due", "u", "v"]
theorem sc_costs_at : FnScope N_costs_at ["measure", "kind", "end", "due"] (defScope s_costs_at) := ⟨rfl, rfl, rfl, by decide +kernel, rfl, by decide +kernel, by decide +kernel⟩
def R_costs_at (ds : List Dat) (d : Dat) : Prop := ∃ (m : Ms) (k : Nat) (l : List (Int × Int)) (e u : List Int), ds = [m.enc, .int (k : Nat), tI e, tI u] ∧ Ent m k l ∧ m.Ok ∧ Fm 80 e ∧ Fm 80 u ∧ d = .lst ((costF l e u).map tI)
theorem ok_costs_at {G : Gc} (H : Head G) : HasF G "costs_at" 2 4 (PureSp 4 R_costs_at) := by
  refine H.pure (st := s_costs_at) (ps := ["measure", "kind", "end", "due"]) 3 3 (by kernel_rfl) (by kernel_rfl) sc_costs_at (fun _ _ _ _ _ _ us hl => match us, hl with | [_, _, _, _], _ => rfl) fun A hr ds d hl hR => ?_
  have nd := sc_costs_at.nd
  obtain ⟨m, k, l, e, u, rfl, he, ho, fe, fu, rfl⟩ := hR
  have hl := he.ok ho
  refine x_one (x_ret (Ed.ev (EdN.ed (edn_lcm nd [("u", 4), ("v", 5)] (by kernel_rfl) (ys := l) (enc := pI) (edi_tup (ed_entry he (ed_nm 0 (by kernel_rfl) rfl) (ed_nm 1 (by kernel_rfl) rfl))) (by have := hl.2.1; omega) (fun y hy => ⟨_, _, (fun _ z => z), (gd_tup (gds_cons (gd_nm nd 4 (by kernel_rfl)) (gds_cons (gd_nm nd 5 (by kernel_rfl)) gds_nil))), (ed_call (ok_added H) (hr.mono (by decide)) (by kernel_rfl) (eda_cons (ed_call (ok_scaled H) (hr.mono (by decide)) (by kernel_rfl) (eda_cons (ed_nm 4 (by kernel_rfl) rfl) (eda_cons (ed_nm 2 (by kernel_rfl) rfl) eda_nil)) ⟨_, _, rfl, ?_, ?_, rfl⟩) (eda_cons (ed_call (ok_scaled H) (hr.mono (by decide)) (by kernel_rfl) (eda_cons (ed_nm 5 (by kernel_rfl) rfl) (eda_cons (ed_nm 3 (by kernel_rfl) rfl) eda_nil)) ⟨_, _, rfl, ?_, ?_, rfl⟩) eda_nil)) ⟨_, _, rfl, ?_, ?_, rfl⟩)⟩))) ?_))
  · rw [fe.len]; decide
  · exact fe.cm (hl.2.2 y hy).1
  · rw [fu.len]; decide
  · exact fu.cm (hl.2.2 y hy).2
  · rw [vsc_len, vsc_len, fe.len, fu.len]
  · rw [vsc_len, fe.len]; decide
  · simp [costF]
end Kb
namespace Kb
open PySem PySem.Spec PyProof.Rows L2
theorem noOwn_of {ρ : En} (h : ρ.all (fun s => match s with | .own _ => false | _ => true) = true) : NoOwn ρ := fun i l e => by
  have := List.all_eq_true.mp h _ (List.mem_of_getElem? e)
  cases this
theorem EvN.imp {S : Sg} {g : Wd} {e : Expr} {ρ : En} {n : Nat} {K K' : Nat → List Dat → Prop} (h : EvN S g e ρ n K) (k : ∀ n d, K n d → K' n d) : EvN S g e ρ n K' := fun M Hb ad σ H E Q q =>
  h M Hb ad σ H E Q fun n' p us H' ds a1 a2 a3 a4 a5 a6 => q n' p us H' ds a1 a2 a3 a4 a5 (k _ _ a6)
theorem EdN.ev {S : Sg} {g : Wd} {e : Expr} {ρ : En} {n : Nat} {ds : List Dat} {K : Nat → List Dat → Prop} (h : EdN S g e ρ ds) (k : K n ds) : EvN S g e ρ n K := EvN.imp (h n) fun _ _ ⟨e1, e2⟩ => by
  subst e1 e2
  exact k
/-- name = e: a new list, of no effect else -/
theorem xd_setN {S : Sg} {g : Wd} {e : Expr} {ρ : En} {n : Nat} {x : Str} {pos py : Pos} {D : DE} {ds : List Dat} (nd : S.N.Nodup) (i : Nat) (hst : stB S i x = true) (hi : i < ρ.length) (h : EdN S g e ρ ds) (k : D.nx n (ρ.set i (.own ds))) (hs : ∀ env, swapsWith e (some (.Name x py)) pos.line env = pure false := by intro _; rfl) : Ex1 S g (.Assign [.Name x py] e pos) ρ n D :=
  x_setN nd i hst hi (EdN.ev h k) hs
def flStep (rows : List (List Int)) : List (List Int) := rows.flatMap fun r => [0, 1].map fun f => r ++ [f]
def flN : Nat → List (List Int)
  | 0 => [[]]
  | n + 1 => flStep (flN n)
def flagsF : List (List Int) := flN 4
abbrev N_flags : List Str := ["found", "turn", "row", "flag"]
theorem sc_flags : FnScope N_flags [] (defScope s_flags) := ⟨rfl, rfl, rfl, by decide +kernel, rfl, by decide +kernel, by decide +kernel⟩
def R_flags (ds : List Dat) (d : Dat) : Prop := d = .lst (flagsF.map tI)
theorem flN_len : ∀ n, n ≤ 4 → (flN n).length ≤ 16 ∧ ∀ r ∈ flN n, r.length ≤ 4 := by decide +kernel
theorem ok_flags {G : Gc} (H : Head G) : HasF G "flags" 1 0 (PureSp 0 R_flags) := by
  refine H.pure (st := s_flags) (ps := []) 4 4 (by kernel_rfl) (by kernel_rfl) sc_flags (fun _ _ _ _ _ _ us hl => match us, hl with | [], _ => rfl) fun A hr ds d hl hR => ?_
  have nd := sc_flags.nd
  have ed0 : ds = [] := List.length_eq_zero_iff.mp hl
  subst ed0
  unfold R_flags at hR
  subst hR
  refine x_cons (xd_setN nd 0 (by kernel_rfl) (by decide) (edn_lst (eda_cons (ed_tup eda_nil) eda_nil)) ?_)
  refine x_cons (x_for (EdI.ev (edi_rng1 (by kernel_rfl) (H.free 73) ed_int (by decide) (by decide)) ⟨fun i n ρ => n = 0 ∧ ∃ s, ρ = [.own ((flN i).map tI), s, .no, .no], ⟨rfl, .no, rfl⟩, fun i x n2 ρ2 hx ⟨e1, s, e2⟩ => ?_, fun n2 ρ2 ⟨e1, s, e2⟩ => ?_⟩))
  · subst e1 e2
    have hi : i < 4 := by
      have := (List.getElem?_eq_some_iff.mp hx).1
      rwa [rgD_len] at this
    have hf := flN_len i (by omega)
    have hf1 := (flN_len (i + 1) (by omega)).1
    refine ⟨_, _, gd_nm nd 1 (by kernel_rfl), ?_⟩
    refine x_freeze (i := 0) rfl (x_one (x_setLc2 nd 0 (by kernel_rfl) [("row", 2), ("flag", 3)] [3] (by simp) (by kernel_rfl) (ys := flN i) (enc := tI) (zs := fun _ => [0, 1]) (enc1 := Dat.int) (f := fun r f => tI (r ++ [f])) (edi_lst (ed_nm 0 (by kernel_rfl) rfl)) ?_ (fun y hy => ⟨_, _, (by simp), noOwn_of rfl, (gd_nm nd 2 (by kernel_rfl)), (edi_tup (ed_tup (eda_cons ed_int (eda_cons ed_int eda_nil)))), fun z hz => ⟨_, _, (by simp), (gd_nm nd 3 (by kernel_rfl)), (Ed.is (ed_op (ed_nm 2 (by kernel_rfl) rfl) (ed_tup (eda_cons (ed_nm 3 (by kernel_rfl) rfl) eda_nil) (by simp)) (o_catT ?_)) (by simp [tI]))⟩⟩) (.inr ⟨by simp, ?_⟩)))
    · have : ((flN i).flatMap fun y => [(0 : Int), 1].map fun f => tI (y ++ [f])).length = (flStep (flN i)).length := by simp [flStep, List.length_flatMap]
      rw [this]
      show (flN (i + 1)).length ≤ 1000
      omega
    · have := hf.2 y hy
      simp
      omega
    · refine ⟨rfl, .dat x, ?_⟩
      show _ = [Sl.own ((flN (i + 1)).map tI), Sl.dat x, Sl.no, Sl.no]
      rw [show ((flN i).flatMap fun r => [(0 : Int), 1].map fun f => tI (r ++ [f])) = (flN (i + 1)).map tI from by simp [flN, flStep, List.map_flatMap]]
      rfl
  · subst e1 e2
    exact x_freeze (i := 0) rfl (x_one (x_ret (Ed.ev (ed_nm 0 (by kernel_rfl) rfl) rfl)))
end Kb
namespace Kb
open PySem PySem.Spec PyProof.Rows L2
/-- a flag list -/
def lateT (wa wb : Int) (c : List Int) : Bool := decide (wb * c.getD 2 0 + wa * c.getD 3 0 < wa * c.getD 0 0 + wb * c.getD 1 0)
inductive Csd : Ms → Nat → Nat → List (List Int) → Prop
  | late {ws : List Int} {a b : Nat} {wa wb : Int} : ws[a]? = some wa → ws[b]? = some wb → Csd (.late ws) a b (flagsF.filter (lateT wa wb))
  | sum {es : List (List (Int × Int))} {a b : Nat} {la lb : List (Int × Int)} : es[a]? = some la → es[b]? = some lb → Csd (.sum es) a b ((List.range la.length).flatMap fun (i : Nat) => (List.range lb.length).map fun (j : Nat) => [(i : Int), (j : Int)])
  | max {es : List (List (Int × Int))} {a b : Nat} {la lb : List (Int × Int)} : es[a]? = some la → es[b]? = some lb → Csd (.max es) a b (((List.range la.length).map fun (i : Nat) => [(0 : Int), (i : Int)]) ++ (List.range lb.length).map fun (j : Nat) => [(1 : Int), (j : Int)])
theorem flagsF_ok : ∀ c ∈ flagsF, c.length = 4 ∧ ∀ x ∈ c, x = 0 ∨ x = 1 := by decide +kernel
theorem tI_at {c : List Int} {k : Nat} (h : k < c.length) : Ix (tI c) (k : Int) (.int (c.getD k 0)) := ixt_nat (get_map (getD_get h))
theorem rgD_range (n : Nat) : rgD 0 n = (List.range n).map fun i => Dat.int (i : Nat) := by
  unfold rgD
  simp
abbrev N_cases : List Str := ["measure", "A", "B", "way", "first", "second", "one", "i", "j"]
theorem sc_cases : FnScope N_cases ["measure", "A", "B"] (defScope s_cases) := ⟨rfl, rfl, rfl, by decide +kernel, rfl, by decide +kernel, by decide +kernel⟩
def R_cases (ds : List Dat) (d : Dat) : Prop := ∃ (m : Ms) (a b : Nat) (r : List (List Int)), ds = [m.enc, .int (a : Nat), .int (b : Nat)] ∧ m.Ok ∧ Csd m a b r ∧ d = .lst (r.map tI)
theorem fm_len {α β : Type} {f : α → List β} {k : Nat} : ∀ {l : List α}, (∀ y ∈ l, (f y).length ≤ k) → (l.flatMap f).length ≤ l.length * k
  | [], _ => by simp
  | x :: l, h => by
    rw [List.flatMap_cons, List.length_append, List.length_cons, Nat.succ_mul]
    have h1 := h x List.mem_cons_self
    have h2 := fm_len (l := l) fun y hy => h y (List.mem_cons_of_mem _ hy)
    omega
theorem bd01 {x : Int} (h : x = 0 ∨ x = 1) : Bd 1 x := by rcases h with rfl | rfl <;> decide
theorem getD_mem {α : Type} {l : List α} {k : Nat} {d : α} (h : k < l.length) : l.getD k d ∈ l := List.mem_of_getElem? (getD_get h)
theorem ok_cases {G : Gc} (H : Head G) : HasF G "cases" 2 3 (PureSp 3 R_cases) := by
  refine H.pure (st := s_cases) (ps := ["measure", "A", "B"]) 5 5 (by kernel_rfl) (by kernel_rfl) sc_cases (fun _ _ _ _ _ _ us hl => match us, hl with | [_, _, _], _ => rfl) fun A hr ds d hl hR => ?_
  have nd := sc_cases.nd
  obtain ⟨m, a, b, r, rfl, ho, hc, rfl⟩ := hR
  cases hc with
  | @late ws a b wa wb ha hb =>
    have ba := ho.2 wa (List.mem_of_getElem? ha)
    have bb := ho.2 wb (List.mem_of_getElem? hb)
    have e1 : ∀ n : Nat, Ix (.tup [.str "late", tI ws]) 1 (tI ws) := fun _ => .tup rfl
    refine x_cons (x_pack nd [3, 4, 5] (.cons (by kernel_rfl) (.cons (by kernel_rfl) (.cons (by kernel_rfl) .nil))) (by simp [startE]) (by decide) (era_dat (Ed.ev (ed_ix (ed_nm 0 (by kernel_rfl) rfl) ed_int (.tup rfl)) (era_dat (Ed.ev (ed_ix (ed_ix (ed_nm 0 (by kernel_rfl) rfl) ed_int (.tup rfl)) (ed_nm 1 (by kernel_rfl) rfl) (ixt_nat (get_map ha))) (era_dat (Ed.ev (ed_ix (ed_ix (ed_nm 0 (by kernel_rfl) rfl) ed_int (.tup rfl)) (ed_nm 2 (by kernel_rfl) rfl) (ixt_nat (get_map hb))) (era_nil ⟨rfl, ?_⟩))))))) (by kernel_rfl))
    refine x_cons (xd_if (etd_cmp (ed_nm 3 (by kernel_rfl) rfl) ed_str o_eqS) (fun h => ?_) fun h => absurd h (by decide))
    refine x_one (x_ret (Ed.ev (EdN.ed (edn_lc nd [("one", 6)] (by kernel_rfl) (ys := flagsF) (enc := tI) (t := lateT wa wb) (f := tI) (edi_lst (ed_call0 (ok_flags H) (hr.mono (by decide)) (by kernel_rfl) rfl)) (by decide +kernel) (fun y hy => ?_))) rfl))
    have hy1 := flagsF_ok y hy
    have g : ∀ k, k < 4 → Bd 1 (y.getD k 0) := fun k hk => bd01 (hy1.2 _ (getD_mem (by omega)))
    refine ⟨_, _, (by simp), (gd_nm nd 6 (by kernel_rfl)), (etds_one (etd_cmp (ed_op (ed_op (ed_nm 4 (by kernel_rfl) rfl) (ed_ix (ed_nm 6 (by kernel_rfl) rfl) ed_int (tI_at (k := 0) (by omega))) (o_mul ?_)) (ed_op (ed_nm 5 (by kernel_rfl) rfl) (ed_ix (ed_nm 6 (by kernel_rfl) rfl) ed_int (tI_at (k := 1) (by omega))) (o_mul ?_)) o_add) (ed_op (ed_op (ed_nm 5 (by kernel_rfl) rfl) (ed_ix (ed_nm 6 (by kernel_rfl) rfl) ed_int (tI_at (k := 2) (by omega))) (o_mul ?_)) (ed_op (ed_nm 4 (by kernel_rfl) rfl) (ed_ix (ed_nm 6 (by kernel_rfl) rfl) ed_int (tI_at (k := 3) (by omega))) (o_mul ?_)) o_add) o_gt)), fun ht => (ed_nm 6 (by kernel_rfl) rfl)⟩
    · exact cm ba.2 (g 0 (by decide))
    · exact cm bb.2 (g 1 (by decide))
    · exact cm bb.2 (g 2 (by decide))
    · exact cm ba.2 (g 3 (by decide))
  | @sum es a b la lb ha hb =>
    have ka := (ho.2 la (List.mem_of_getElem? ha)).2.1
    have kb := (ho.2 lb (List.mem_of_getElem? hb)).2.1
    refine x_cons (x_pack nd [3, 4, 5] (.cons (by kernel_rfl) (.cons (by kernel_rfl) (.cons (by kernel_rfl) .nil))) (by simp [startE]) (by decide) (era_dat (Ed.ev (ed_ix (ed_nm 0 (by kernel_rfl) rfl) ed_int (.tup rfl)) (era_dat (Ed.ev (ed_ix (ed_ix (ed_nm 0 (by kernel_rfl) rfl) ed_int (.tup rfl)) (ed_nm 1 (by kernel_rfl) rfl) (ixt_nat (get_map ha))) (era_dat (Ed.ev (ed_ix (ed_ix (ed_nm 0 (by kernel_rfl) rfl) ed_int (.tup rfl)) (ed_nm 2 (by kernel_rfl) rfl) (ixt_nat (get_map hb))) (era_nil ⟨rfl, ?_⟩))))))) (by kernel_rfl))
    refine x_cons (xd_if (etd_cmp (ed_nm 3 (by kernel_rfl) rfl) ed_str o_eqS) (fun h => absurd h (by decide)) fun h => ?_)
    refine x_nil ?_
    refine x_cons (xd_if (etd_cmp (ed_nm 3 (by kernel_rfl) rfl) ed_str o_eqS) (fun h => ?_) fun h => absurd h (by decide))
    refine x_one (x_ret (Ed.ev (EdN.ed (edn_lc2 nd [("i", 7), ("j", 8)] [8] (by simp) (by kernel_rfl) (ys := List.range la.length) (enc := fun i => Dat.int (i : Nat)) (zs := fun _ => List.range lb.length) (enc1 := fun i => Dat.int (i : Nat)) (f := fun i j => tI [(i : Int), (j : Int)]) ((edi_rng1 (by kernel_rfl) (H.free 73) (ed_len (xs := la.map pI) (by kernel_rfl) (H.free 69) (ed_nm 4 (by kernel_rfl) rfl) (by exact rfl)) ?_ ?_).is ?_) ?_ (fun y hy => ⟨_, _, (by simp), noOwn_of rfl, (gd_nm nd 7 (by kernel_rfl)), ((edi_rng1 (by kernel_rfl) (H.free 73) (ed_len (xs := lb.map pI) (by kernel_rfl) (H.free 69) (ed_nm 5 (by kernel_rfl) rfl) (by exact rfl)) ?_ ?_).is ?_), fun z hz => ⟨_, _, (by simp), (gd_nm nd 8 (by kernel_rfl)), (ed_tup (eda_cons (ed_nm 7 (by kernel_rfl) rfl) (eda_cons (ed_nm 8 (by kernel_rfl) rfl) eda_nil)) (by simp))⟩⟩))) ?_))
    · rw [List.length_map]; omega
    · rw [List.length_map]; omega
    · rw [List.length_map]; exact rgD_range _
    · refine Nat.le_trans (fm_len (k := 20) fun y hy => by simpa using kb) ?_
      rw [List.length_range]
      omega
    · rw [List.length_map]; omega
    · rw [List.length_map]; omega
    · rw [List.length_map]; exact rgD_range _
    · simp [List.map_flatMap, Function.comp_def]
  | @max es a b la lb ha hb =>
    have ka := (ho.2 la (List.mem_of_getElem? ha)).2.1
    have kb := (ho.2 lb (List.mem_of_getElem? hb)).2.1
    refine x_cons (x_pack nd [3, 4, 5] (.cons (by kernel_rfl) (.cons (by kernel_rfl) (.cons (by kernel_rfl) .nil))) (by simp [startE]) (by decide) (era_dat (Ed.ev (ed_ix (ed_nm 0 (by kernel_rfl) rfl) ed_int (.tup rfl)) (era_dat (Ed.ev (ed_ix (ed_ix (ed_nm 0 (by kernel_rfl) rfl) ed_int (.tup rfl)) (ed_nm 1 (by kernel_rfl) rfl) (ixt_nat (get_map ha))) (era_dat (Ed.ev (ed_ix (ed_ix (ed_nm 0 (by kernel_rfl) rfl) ed_int (.tup rfl)) (ed_nm 2 (by kernel_rfl) rfl) (ixt_nat (get_map hb))) (era_nil ⟨rfl, ?_⟩))))))) (by kernel_rfl))
    refine x_cons (xd_if (etd_cmp (ed_nm 3 (by kernel_rfl) rfl) ed_str o_eqS) (fun h => absurd h (by decide)) fun h => ?_)
    refine x_nil ?_
    refine x_cons (xd_if (etd_cmp (ed_nm 3 (by kernel_rfl) rfl) ed_str o_eqS) (fun h => absurd h (by decide)) fun h => ?_)
    refine x_nil ?_
    refine x_one (x_ret (Ed.ev (EdN.ed (edn_op (EdN.ed (edn_lcm nd [("i", 7)] (by kernel_rfl) (ys := List.range la.length) (enc := fun i => Dat.int (i : Nat)) ((edi_rng1 (by kernel_rfl) (H.free 73) (ed_len (xs := la.map pI) (by kernel_rfl) (H.free 69) (ed_nm 4 (by kernel_rfl) rfl) (by exact rfl)) ?_ ?_).is ?_) (by rw [List.length_range]; omega) (fun y hy => ⟨_, _, (by simp), (gd_nm nd 7 (by kernel_rfl)), (ed_tup (eda_cons ed_int (eda_cons (ed_nm 7 (by kernel_rfl) rfl) eda_nil)) (by simp))⟩))) (EdN.ed (edn_lcm nd [("j", 8)] (by kernel_rfl) (ys := List.range lb.length) (enc := fun i => Dat.int (i : Nat)) ((edi_rng1 (by kernel_rfl) (H.free 73) (ed_len (xs := lb.map pI) (by kernel_rfl) (H.free 69) (ed_nm 5 (by kernel_rfl) rfl) (by exact rfl)) ?_ ?_).is ?_) (by rw [List.length_range]; omega) (fun y hy => ⟨_, _, (by simp), (gd_nm nd 8 (by kernel_rfl)), (ed_tup (eda_cons ed_int (eda_cons (ed_nm 8 (by kernel_rfl) rfl) eda_nil)) (by simp))⟩))) (on_cat ?_))) ?_))
    · rw [List.length_map]; omega
    · rw [List.length_map]; omega
    · rw [List.length_map]; exact rgD_range _
    · rw [List.length_map]; omega
    · rw [List.length_map]; omega
    · rw [List.length_map]; exact rgD_range _
    · simp; omega
    · simp [Function.comp_def, tI]
end Kb
namespace Kb
open PySem PySem.Spec PyProof.Rows L2
abbrev Rw := List Int × Bool
def rowE (r : Rw) : Dat := .tup [tI r.1, .bl r.2]
def lateRowsF (c : List Int) (es us : List (List Int)) : List Rw := (c.zip (es.zip us)).map fun q => if q.1 = 1 then (vless q.2.1 q.2.2, true) else (vless q.2.2 q.2.1, false)
theorem zp3_forms (c : List Int) (es us : List (List Int)) : zp3 (c.map .int) (es.map tI) (us.map tI) = (c.zip (es.zip us)).map fun q => .tup [.int q.1, tI q.2.1, tI q.2.2] := by
  unfold zp3
  rw [List.zip_map, List.zip_map, List.map_map]
  rfl
abbrev N_late_rows : List Str := ["case", "ends", "dues", "found", "is_late", "end", "due"]
theorem sc_late_rows : FnScope N_late_rows ["case", "ends", "dues"] (defScope s_late_rows) := ⟨rfl, rfl, rfl, by decide +kernel, rfl, by decide +kernel, by decide +kernel⟩
def R_late_rows (ds : List Dat) (d : Dat) : Prop := ∃ (c : List Int) (es us : List (List Int)), ds = [tI c, .tup (es.map tI), .tup (us.map tI)] ∧ c.length ≤ 1000 ∧ c.length = es.length ∧ c.length = us.length ∧ (∀ x ∈ es, Fm 90 x) ∧ (∀ x ∈ us, Fm 90 x) ∧ d = .tup ((lateRowsF c es us).map rowE)
theorem ok_late_rows {G : Gc} (H : Head G) : HasF G "late_rows" 3 3 (PureSp 3 R_late_rows) := by
  refine H.pure (st := s_late_rows) (ps := ["case", "ends", "dues"]) 6 6 (by kernel_rfl) (by kernel_rfl) sc_late_rows (fun _ _ _ _ _ _ us hl => match us, hl with | [_, _, _], _ => rfl) fun A hr ds d hl hR => ?_
  have nd := sc_late_rows.nd
  obtain ⟨c, es, us, rfl, hz, h1, h2, f1, f2, rfl⟩ := hR
  refine x_cons (xd_setN nd 3 (by kernel_rfl) (by simp [startE]) (edn_lst eda_nil) ?_)
  refine x_cons (x_for (EdI.ev ((edi_zips3 (by kernel_rfl) (H.free 79) (ed_nm 0 (by kernel_rfl) rfl) (ed_nm 1 (by kernel_rfl) rfl) (ed_nm 2 (by kernel_rfl) rfl) (by exact rfl) (by exact rfl) (by exact rfl) (by simpa using h1) (by simpa using h2)).is (zp3_forms c es us)) ⟨fun i n ρ => n = 0 ∧ ∃ a b e, ρ = [.dat (tI c), .dat (.tup (es.map tI)), .dat (.tup (us.map tI)), .own (((lateRowsF c es us).take i).map rowE), a, b, e], ⟨rfl, .no, .no, .no, by simp [startE]⟩, fun i x n2 ρ2 hx ⟨e1, a, b, e, e2⟩ => ?_, fun n2 ρ2 ⟨e1, a, b, e, e2⟩ => ?_⟩))
  · subst e1 e2
    rw [List.getElem?_map] at hx
    cases hq : (c.zip (es.zip us))[i]? with
    | none => rw [hq] at hx; cases hx
    | some q =>
      rw [hq] at hx
      cases hx
      have hqm := List.mem_of_getElem? hq
      obtain ⟨x, y, z⟩ := q
      have hy := (List.of_mem_zip (List.of_mem_zip hqm).2)
      have fy := f1 _ hy.1
      have fz := f2 _ hy.2
      have hi : i < (c.zip (es.zip us)).length := (List.getElem?_eq_some_iff.mp hq).1
      rw [List.length_zip, List.length_zip] at hi
      have et : (lateRowsF c es us).take (i + 1) = (lateRowsF c es us).take i ++ [if x = 1 then (vless y z, true) else (vless z y, false)] := by
        rw [List.take_add_one]
        unfold lateRowsF
        rw [List.getElem?_map, hq]
        rfl
      refine ⟨_, _, (gd_tup (gds_cons (gd_nm nd 4 (by kernel_rfl)) (gds_cons (gd_nm nd 5 (by kernel_rfl)) (gds_cons (gd_nm nd 6 (by kernel_rfl)) gds_nil)))), x_one (x_app 3 (by kernel_rfl) rfl ?_ (Ed.ev (d := rowE (if x = 1 then (vless y z, true) else (vless z y, false))) (ed_if (etd_cmp (ed_nm 4 (by kernel_rfl) rfl) ed_int o_eq) (fun h => Ed.is (ed_tup (eda_cons (ed_call (ok_less H) (hr.mono (by decide)) (by kernel_rfl) (eda_cons (ed_nm 5 (by kernel_rfl) rfl) (eda_cons (ed_nm 6 (by kernel_rfl) rfl) eda_nil)) ⟨_, _, rfl, ?_, ?_, ?_, rfl⟩) (eda_cons ed_bl eda_nil)) (by simp)) ?_) (fun h => Ed.is (ed_tup (eda_cons (ed_call (ok_less H) (hr.mono (by decide)) (by kernel_rfl) (eda_cons (ed_nm 6 (by kernel_rfl) rfl) (eda_cons (ed_nm 5 (by kernel_rfl) rfl) eda_nil)) ⟨_, _, rfl, ?_, ?_, ?_, rfl⟩) (eda_cons ed_bl eda_nil)) (by simp)) ?_)) ?_))⟩
      · rw [List.length_map, List.length_take]; omega
      · rw [fy.len, fz.len]
      · rw [fy.len]; decide
      · exact fz.big
      · rw [if_pos (by simpa using h)]; rfl
      · rw [fy.len, fz.len]
      · rw [fz.len]; decide
      · exact fy.big
      · rw [if_neg (by simpa using h)]; rfl
      · refine ⟨rfl, .dat (.int x), .dat (tI y), .dat (tI z), ?_⟩
        rw [et, List.map_append]
        rfl
  · subst e1 e2
    refine x_freeze (i := 3) rfl (x_one (x_ret (Ed.ev (ed_tupleL (by kernel_rfl) (H.free 78) (ed_nm 3 (by kernel_rfl) rfl)) ?_)))
    rw [List.take_of_length_le]
    rw [List.length_map]
    unfold lateRowsF
    rw [List.length_map]
    exact Nat.le_refl _
end Kb
namespace Kb
open PySem PySem.Spec PyProof.Rows L2
/-- the rows of a case -/
inductive Rws : Ms → Nat → Nat → List Int → List Int → List Int → List Int → List Int → List Int → List Rw → Prop
  | late {ws : List Int} {a b : Nat} {c s p d q e : List Int} : c.length = 4 → Rws (.late ws) a b c s p d q e (lateRowsF c [vadd s p, vadd (vadd s p) q, vadd s q, vadd (vadd s p) q] [d, e, e, d])
  | sum {es : List (List (Int × Int))} {a b i j : Nat} {s p d q e x y : List Int} {la lb : List (Int × Int)} : es[a]? = some la → es[b]? = some lb → (costF la (vadd s p) d)[i]? = some x → (costF lb (vadd (vadd s p) q) e)[j]? = some y →
      Rws (.sum es) a b [(i : Int), (j : Int)] s p d q e ((costF lb (vadd s q) e).flatMap fun one => (costF la (vadd (vadd s p) q) d).map fun two => (vless (vadd x y) (vadd one two), true))
  | max {es : List (List (Int × Int))} {a b i j : Nat} {s p d q e x : List Int} {la lb : List (Int × Int)} : es[a]? = some la → es[b]? = some lb → ((j = 0 ∧ (costF la (vadd s p) d)[i]? = some x) ∨ (j = 1 ∧ (costF lb (vadd (vadd s p) q) e)[i]? = some x)) →
      Rws (.max es) a b [(j : Int), (i : Int)] s p d q e ((costF lb (vadd s q) e ++ costF la (vadd (vadd s p) q) d).map fun one => (vless x one, true))
abbrev N_case_rows : List Str := ["measure", "A", "B", "case", "s", "p", "d", "q", "e", "first", "second", "last", "ahead", "behind", "other", "rest", "whole", "worst", "one", "two"]
theorem sc_case_rows : FnScope N_case_rows ["measure", "A", "B", "case", "s", "p", "d", "q", "e"] (defScope s_case_rows) := ⟨rfl, rfl, rfl, by decide +kernel, rfl, by decide +kernel, by decide +kernel⟩
def R_case_rows (ds : List Dat) (dd : Dat) : Prop := ∃ (m : Ms) (a b : Nat) (c s p d q e : List Int) (r : List Rw), ds = [m.enc, .int (a : Nat), .int (b : Nat), tI c, tI s, tI p, tI d, tI q, tI e] ∧ m.Ok ∧ Fm 70 s ∧ Fm 70 p ∧ Fm 70 d ∧ Fm 70 q ∧ Fm 70 e ∧ Rws m a b c s p d q e r ∧ dd = .tup (r.map rowE)
theorem ok_case_rows {G : Gc} (H : Head G) : HasF G "case_rows" 4 9 (PureSp 9 R_case_rows) := by
  refine H.pure (st := s_case_rows) (ps := ["measure", "A", "B", "case", "s", "p", "d", "q", "e"]) 7 7 (by kernel_rfl) (by kernel_rfl) sc_case_rows (fun _ _ _ _ _ _ us hl => match us, hl with | [_, _, _, _, _, _, _, _, _], _ => rfl) fun A hr ds dd hl hR => ?_
  have nd := sc_case_rows.nd
  obtain ⟨m, a, b, c, s, p, d, q, e, r, rfl, ho, fs, fp, fd, fq, fe, hw, rfl⟩ := hR
  have f1 := fs.add fp
  have f2 := fs.add fq
  have f3 := f1.add (fq.mono (by decide))
  have l2 : ∀ {k : Nat} {x y : List Int}, Fm k x → Fm k y → x.length = y.length := fun h h' => by rw [h.len, h'.len]
  have l3 : ∀ {k : Nat} {x : List Int}, Fm k x → x.length ≤ 1000 := fun h => by rw [h.len]; decide
  refine x_cons (x_par3 nd 9 10 11 ⟨rfl, rfl⟩ ⟨rfl, rfl⟩ ⟨rfl, rfl⟩ (by decide) (by simp [startE]) (by kernel_rfl) (era_dat (Ed.ev (ed_call (ok_added H) (hr.mono (by decide)) (by kernel_rfl) (eda_cons (ed_nm 4 (by kernel_rfl) rfl) (eda_cons (ed_nm 5 (by kernel_rfl) rfl) eda_nil)) ⟨_, _, rfl, l2 fs fp, l3 fs, rfl⟩)
    (era_dat (Ed.ev (ed_call (ok_added H) (hr.mono (by decide)) (by kernel_rfl) (eda_cons (ed_nm 4 (by kernel_rfl) rfl) (eda_cons (ed_nm 7 (by kernel_rfl) rfl) eda_nil)) ⟨_, _, rfl, l2 fs fq, l3 fs, rfl⟩)
    (era_dat (Ed.ev (ed_call (ok_added H) (hr.mono (by decide)) (by kernel_rfl) (eda_cons (ed_call (ok_added H) (hr.mono (by decide)) (by kernel_rfl) (eda_cons (ed_nm 4 (by kernel_rfl) rfl) (eda_cons (ed_nm 5 (by kernel_rfl) rfl) eda_nil)) ⟨_, _, rfl, l2 fs fp, l3 fs, rfl⟩) (eda_cons (ed_nm 7 (by kernel_rfl) rfl) eda_nil)) ⟨_, _, rfl, by rw [f1.len, fq.len], l3 f1, rfl⟩) (era_nil ⟨rfl, ?_⟩))))))))
  refine x_cons (xd_if (etd_cmp (ed_way (ed_nm 0 (by kernel_rfl) rfl)) ed_str o_eqS) (fun h => ?_) fun h => x_nil ?_)
  · cases hw with
    | sum => exact absurd (show decide (("sum" : Str) = "late") = true from h) (by decide)
    | max => exact absurd (show decide (("max" : Str) = "late") = true from h) (by decide)
    | late hc =>
      refine x_one (x_ret (Ed.ev (ed_call (ok_late_rows H) (hr.mono (by decide)) (by kernel_rfl) (eda_cons (ed_nm 3 (by kernel_rfl) rfl) (eda_cons (ed_tup (eda_cons (ed_nm 9 (by kernel_rfl) rfl) (eda_cons (ed_nm 11 (by kernel_rfl) rfl) (eda_cons (ed_nm 10 (by kernel_rfl) rfl) (eda_cons (ed_nm 11 (by kernel_rfl) rfl) eda_nil)))) (by simp)) (eda_cons (ed_tup (eda_cons (ed_nm 6 (by kernel_rfl) rfl) (eda_cons (ed_nm 8 (by kernel_rfl) rfl) (eda_cons (ed_nm 8 (by kernel_rfl) rfl) (eda_cons (ed_nm 6 (by kernel_rfl) rfl) eda_nil)))) (by simp)) eda_nil))) ⟨c, [_, _, _, _], [_, _, _, _], rfl, by omega, hc, hc, ?_, ?_, rfl⟩) rfl))
      · intro x hx
        simp only [List.mem_cons, List.not_mem_nil, or_false] at hx
        rcases hx with rfl | rfl | rfl | rfl
        · exact f1.mono (by decide)
        · exact f3.mono (by decide)
        · exact f2.mono (by decide)
        · exact f3.mono (by decide)
      · intro x hx
        simp only [List.mem_cons, List.not_mem_nil, or_false] at hx
        rcases hx with rfl | rfl | rfl | rfl
        · exact fd.mono (by decide)
        · exact fe.mono (by decide)
        · exact fe.mono (by decide)
        · exact fd.mono (by decide)
  have main : ∀ (la lb : List (Int × Int)), Ent m a la → Ent m b lb → Ex (G.sg A N_case_rows (defScope s_case_rows)) wd0 ((defBody s_case_rows).drop 2) [.dat m.enc, .dat (.int (a : Nat)), .dat (.int (b : Nat)), .dat (tI c), .dat (tI s), .dat (tI p), .dat (tI d), .dat (tI q), .dat (tI e), .dat (tI (vadd s p)), .dat (tI (vadd s q)), .dat (tI (vadd (vadd s p) q)), .no, .no, .no, .no, .no, .no, .no, .no] 0 { nx := fun _ _ => Dat.tup (r.map rowE) = .non, rt := fun _ d' => d' = Dat.tup (r.map rowE) } := by
    intro la lb ha hb
    have oa := ha.ok ho
    have ob := hb.ok ho
    have c1 := costF_fm oa (f1.mono (by decide : 71 ≤ 80)) (fd.mono (by decide : 70 ≤ 80))
    have c2 := costF_fm ob (f3.mono (by decide : 72 ≤ 80)) (fe.mono (by decide : 70 ≤ 80))
    have c3 := costF_fm ob (f2.mono (by decide : 71 ≤ 80)) (fe.mono (by decide : 70 ≤ 80))
    have c4 := costF_fm oa (f3.mono (by decide : 72 ≤ 80)) (fd.mono (by decide : 70 ≤ 80))
    have n3 : (costF lb (vadd s q) e).length ≤ 20 := by unfold costF; rw [List.length_map]; exact ob.2.1
    have n4 : (costF la (vadd (vadd s p) q) d).length ≤ 20 := by unfold costF; rw [List.length_map]; exact oa.2.1
    refine x_cons (x_par2 nd 12 13 ⟨rfl, rfl⟩ ⟨rfl, rfl⟩ (by decide) (by simp) (by kernel_rfl) (era_dat (Ed.ev (ed_call (ok_costs_at H) (hr.mono (by decide)) (by kernel_rfl) (eda_cons (ed_nm 0 (by kernel_rfl) rfl) (eda_cons (ed_nm 1 (by kernel_rfl) rfl) (eda_cons (ed_nm 9 (by kernel_rfl) rfl) (eda_cons (ed_nm 6 (by kernel_rfl) rfl) eda_nil)))) ⟨m, a, la, _, _, rfl, ha, ho, f1.mono (by decide), fd.mono (by decide), rfl⟩)
      (era_dat (Ed.ev (ed_call (ok_costs_at H) (hr.mono (by decide)) (by kernel_rfl) (eda_cons (ed_nm 0 (by kernel_rfl) rfl) (eda_cons (ed_nm 2 (by kernel_rfl) rfl) (eda_cons (ed_nm 11 (by kernel_rfl) rfl) (eda_cons (ed_nm 8 (by kernel_rfl) rfl) eda_nil)))) ⟨m, b, lb, _, _, rfl, hb, ho, f3.mono (by decide), fe.mono (by decide), rfl⟩) (era_nil ⟨rfl, ?_⟩))))))
    refine x_cons (x_pack nd [14, 15] (.cons (by kernel_rfl) (.cons (by kernel_rfl) .nil)) (by simp [setR]) (by decide) (era_dat (Ed.ev (ed_call (ok_costs_at H) (hr.mono (by decide)) (by kernel_rfl) (eda_cons (ed_nm 0 (by kernel_rfl) rfl) (eda_cons (ed_nm 2 (by kernel_rfl) rfl) (eda_cons (ed_nm 10 (by kernel_rfl) rfl) (eda_cons (ed_nm 8 (by kernel_rfl) rfl) eda_nil)))) ⟨m, b, lb, _, _, rfl, hb, ho, f2.mono (by decide), fe.mono (by decide), rfl⟩)
      (era_dat (Ed.ev (ed_call (ok_costs_at H) (hr.mono (by decide)) (by kernel_rfl) (eda_cons (ed_nm 0 (by kernel_rfl) rfl) (eda_cons (ed_nm 1 (by kernel_rfl) rfl) (eda_cons (ed_nm 11 (by kernel_rfl) rfl) (eda_cons (ed_nm 6 (by kernel_rfl) rfl) eda_nil)))) ⟨m, a, la, _, _, rfl, ha, ho, f3.mono (by decide), fd.mono (by decide), rfl⟩) (era_nil ⟨rfl, ?_⟩))))) (by kernel_rfl))
    refine x_cons (xd_if (etd_cmp (ed_way (ed_nm 0 (by kernel_rfl) rfl)) ed_str o_eqS) (fun h => ?_) fun h => x_nil ?_)
    · cases hw with
      | late hc => cases ha
      | max => exact absurd (show decide (("max" : Str) = "sum") = true from h) (by decide)
      | @sum es a b i j s p d q e x y la' lb' ea eb ex ey =>
        cases ha with
        | sum ea' =>
        cases hb with
        | sum eb' =>
        rw [ea] at ea'
        cases ea'
        rw [eb] at eb'
        cases eb'
        have fx := c1 x (List.mem_of_getElem? ex)
        have fy := c2 y (List.mem_of_getElem? ey)
        have fw := fx.add fy
        refine x_cons (xd_set nd 16 (by kernel_rfl) (ed_call (ok_added H) (hr.mono (by decide)) (by kernel_rfl) (eda_cons (ed_ix (ed_nm 12 (by kernel_rfl) rfl) (ed_ix (ed_nm 3 (by kernel_rfl) rfl) ed_int (.tup rfl)) (ixl_nat (get_map ex))) (eda_cons (ed_ix (ed_nm 13 (by kernel_rfl) rfl) (ed_ix (ed_nm 3 (by kernel_rfl) rfl) ed_int (.tup rfl)) (ixl_nat (get_map ey))) eda_nil)) ⟨_, _, rfl, l2 fx fy, l3 fx, rfl⟩) ?_)
        refine x_one (x_ret (Ed.ev (ed_tupleL (by kernel_rfl) (H.free 78) (EdN.ed (edn_lc2 nd [("one", 18), ("two", 19)] [19] (by simp) (by kernel_rfl) (ys := costF lb (vadd s q) e) (enc := tI) (zs := fun _ => costF la (vadd (vadd s p) q) d) (enc1 := tI) (f := fun one two => rowE (vless (vadd x y) (vadd one two), true)) (edi_lst (ed_nm 14 (by kernel_rfl) rfl)) ?_ (fun u hu => ⟨_, _, (by simp), noOwn_of rfl, (gd_nm nd 18 (by kernel_rfl)), (edi_lst (ed_nm 15 (by kernel_rfl) rfl)), fun z hz => ⟨_, _, (by simp), (gd_nm nd 19 (by kernel_rfl)), (ed_tup (eda_cons (ed_call (ok_less H) (hr.mono (by decide)) (by kernel_rfl) (eda_cons (ed_nm 16 (by kernel_rfl) rfl) (eda_cons (ed_call (ok_added H) (hr.mono (by decide)) (by kernel_rfl) (eda_cons (ed_nm 18 (by kernel_rfl) rfl) (eda_cons (ed_nm 19 (by kernel_rfl) rfl) eda_nil)) ⟨_, _, rfl, l2 (c3 u hu) (c4 z hz), l3 (c3 u hu), rfl⟩) eda_nil)) ⟨_, _, rfl, l2 fw ((c3 u hu).add (c4 z hz)), l3 fw, ((c3 u hu).add (c4 z hz)).big, rfl⟩) (eda_cons ed_bl eda_nil)) (by simp))⟩⟩)))) ?_))
        · refine Nat.le_trans (fm_len (k := 20) fun y hy => by simpa using n4) ?_
          omega
        · simp [List.map_flatMap, Function.comp_def]
    · cases hw with
      | late hc => cases ha
      | sum => exact absurd (show decide (("sum" : Str) = "sum") = false from h) (by decide)
      | @max es a b i j s p d q e x la' lb' ea eb ex =>
        cases ha with
        | max ea' =>
        cases hb with
        | max eb' =>
        rw [ea] at ea'
        cases ea'
        rw [eb] at eb'
        cases eb'
        have fx : Fm 145 x := by
          rcases ex with ⟨_, ex⟩ | ⟨_, ex⟩
          · exact c1 x (List.mem_of_getElem? ex)
          · exact c2 x (List.mem_of_getElem? ex)
        refine x_cons (xd_set nd 17 (by kernel_rfl) (d := tI x) (ed_if (etd_cmp (ed_ix (ed_nm 3 (by kernel_rfl) rfl) ed_int (.tup rfl)) ed_int o_eq) (fun h => ?_) (fun h => ?_)) ?_)
        · rcases ex with ⟨_, ex⟩ | ⟨e1, ex⟩
          · exact ed_ix (ed_nm 12 (by kernel_rfl) rfl) (ed_ix (ed_nm 3 (by kernel_rfl) rfl) ed_int (.tup rfl)) (ixl_nat (get_map ex))
          · subst e1
            exact absurd h (by decide)
        · rcases ex with ⟨e1, ex⟩ | ⟨e1, ex⟩
          · subst e1
            exact absurd h (by decide)
          · exact ed_ix (ed_nm 13 (by kernel_rfl) rfl) (ed_ix (ed_nm 3 (by kernel_rfl) rfl) ed_int (.tup rfl)) (ixl_nat (get_map ex))
        have c5 : ∀ y ∈ costF lb (vadd s q) e ++ costF la (vadd (vadd s p) q) d, Fm 145 y := fun y hy => (List.mem_append.mp hy).elim (c3 y) (c4 y)
        refine x_one (x_ret (Ed.ev (ed_tupleL (by kernel_rfl) (H.free 78) (EdN.ed (edn_lcm nd [("one", 18)] (by kernel_rfl) (ys := costF lb (vadd s q) e ++ costF la (vadd (vadd s p) q) d) (enc := tI) ((edi_lst (EdN.ed (edn_op (ed_nm 14 (by kernel_rfl) rfl) (ed_nm 15 (by kernel_rfl) rfl) (on_cat ?_)))).is ?_) ?_ (fun y hy => ⟨_, _, (by simp), (gd_nm nd 18 (by kernel_rfl)), (ed_tup (eda_cons (ed_call (ok_less H) (hr.mono (by decide)) (by kernel_rfl) (eda_cons (ed_nm 17 (by kernel_rfl) rfl) (eda_cons (ed_nm 18 (by kernel_rfl) rfl) eda_nil)) ⟨_, _, rfl, l2 fx (c5 y hy), l3 fx, (c5 y hy).big, rfl⟩) (eda_cons ed_bl eda_nil)) (by simp))⟩)))) ?_))
        · rw [List.length_map, List.length_map]; omega
        · rw [List.map_append]
        · rw [List.length_append]; omega
        · simp [Function.comp_def, rowE]
  cases hw with
  | late hc => exact absurd (show decide (("late" : Str) = "late") = false from h) (by decide)
  | sum ea eb ex ey => exact main _ _ (.sum ea) (.sum eb)
  | max ea eb ex => exact main _ _ (.max ea) (.max eb)
end Kb
namespace Kb
open PySem PySem.Spec PyProof.Rows L2
def oI : Option Int → Dat
  | none => .non
  | some i => .int i
theorem isN_oI (o : Option Int) : isN (oI o) = o.isNone := by cases o <;> rfl
abbrev b2i (b : Bool) : Int := if b then 1 else 0
theorem x_consI {S : Sg} {g : Wd} {st : Stmt} {sts : List Stmt} {ρ : En} {n : Nat} {D : DE} (P : Nat → En → Prop) (h : Ex1 S g st ρ n { D with nx := P }) (k : ∀ n' ρ', P n' ρ' → Ex S g sts ρ' n' D) : Ex S g (st :: sts) ρ n D :=
  x_cons fun M Hb ad σ H D' E R => h M Hb ad σ H D' E ⟨fun n ad σ H ρ E z => R.nx n ad σ H ρ E (k _ _ z), R.rt, R.bk, R.ct⟩
def loF (f n low : Int) : Int := if 0 < f then (if low < 0 - n / f then 0 - n / f else low) else low
def hiM (f n : Int) : Option Int → Int
  | none => n / (0 - f)
  | some h => if n / (0 - f) < h then n / (0 - f) else h
def hiF (f n : Int) (high : Option Int) : Option Int := if f < 0 then some (hiM f n high) else high
/-- the least start of what rows leave -/
def lsGo : List Rw → Int → Option Int → Option Int
  | [], low, high => if high.isNone || decide (low ≤ high.getD 0) then some low else none
  | r :: rs, low, high =>
    let f := r.1.getD 0 0
    let n := r.1.getD 1 0 - b2i r.2
    if f = 0 ∧ n < 0 then none else
    lsGo rs (loF f n low) (hiF f n high)
def lsF (rs : List Rw) : Option Int := lsGo rs 0 none
abbrev N_least_start : List Str := ["rows", "low", "high", "numbers", "is_strict", "factor", "number", "last"]
theorem sc_least_start : FnScope N_least_start ["rows"] (defScope s_least_start) := ⟨rfl, rfl, rfl, by decide +kernel, rfl, by decide +kernel, by decide +kernel⟩
def R_least_start (ds : List Dat) (d : Dat) : Prop := ∃ rs : List Rw, ds = [.tup (rs.map rowE)] ∧ (∀ r ∈ rs, Fm 200 r.1) ∧ d = oI (lsF rs)
theorem fm_at {k : Nat} {a : List Int} (h : Fm k a) (i : Nat) (hi : i < 2) : a[i]? = some (a.getD i 0) ∧ Bd k (a.getD i 0) := by
  have : i < a.length := by rw [h.len]; exact hi
  exact ⟨getD_get this, h.bd _ (getD_mem this)⟩
theorem ok_least_start {G : Gc} (H : Head G) : HasF G "least_start" 1 1 (PureSp 1 R_least_start) := by
  refine H.pure (st := s_least_start) (ps := ["rows"]) 32 24 (by kernel_rfl) (by kernel_rfl) sc_least_start (fun _ _ _ _ _ _ us hl => match us, hl with | [_], _ => rfl) fun A hr ds d hl hR => ?_
  have nd := sc_least_start.nd
  obtain ⟨rs, rfl, hf, rfl⟩ := hR
  refine x_cons (x_pack nd [1, 2] (.cons (by kernel_rfl) (.cons (by kernel_rfl) .nil)) (by simp [startE]) (by decide) (era_dat (Ed.ev ed_int (era_dat (Ed.ev ed_non (era_nil ⟨rfl, ?_⟩))))) (by kernel_rfl))
  refine x_cons (x_for (EdI.ev (edi_tup (ed_nm 0 (by kernel_rfl) rfl)) ⟨fun i n ρ => n = 0 ∧ ∃ (low : Int) (high : Option Int) (a b c d e : Sl), lsGo (rs.drop i) low high = lsF rs ∧ ρ = [.dat (.tup (rs.map rowE)), .dat (.int low), .dat (oI high), a, b, c, d, e],
    ⟨rfl, 0, none, .no, .no, .no, .no, .no, rfl, by simp [startE, setR, Rs.sl]; rfl⟩, fun i x n2 ρ2 hx ⟨e1, low, high, s1, s2, s3, s4, s5, hgo, e2⟩ => ?_, fun n2 ρ2 ⟨e1, low, high, s1, s2, s3, s4, s5, hgo, e2⟩ => ?_⟩))
  · subst e1 e2
    rw [List.getElem?_map] at hx
    cases hq : rs[i]? with
    | none => rw [hq] at hx; cases hx
    | some r =>
      rw [hq] at hx
      cases hx
      have fr := hf r (List.mem_of_getElem? hq)
      obtain ⟨g0, b0⟩ := fm_at fr 0 (by decide)
      obtain ⟨g1, b1⟩ := fm_at fr 1 (by decide)
      have hi := (List.getElem?_eq_some_iff.mp hq).1
      have hd : rs.drop i = r :: rs.drop (i + 1) := by
        rw [List.drop_eq_getElem_cons hi, (List.getElem?_eq_some_iff.mp hq).2]
      rw [hd] at hgo
      unfold lsGo at hgo
      dsimp only at hgo
      generalize r.1.getD 0 0 = f at *
      generalize hn : r.1.getD 1 0 - b2i r.2 = nn at *
      refine ⟨_, _, (gd_tup (gds_cons (gd_nm nd 3 (by kernel_rfl)) (gds_cons (gd_nm nd 4 (by kernel_rfl)) gds_nil))), ?_⟩
      refine x_cons (x_par2 nd 5 6 ⟨rfl, rfl⟩ ⟨rfl, rfl⟩ (by decide) (by simp) (by kernel_rfl) (era_dat (Ed.ev (ed_ix (ed_nm 3 (by kernel_rfl) rfl) ed_int (ixt_nat (k := 0) (get_map g0))) (era_dat (Ed.ev (ed_op (ed_ix (ed_nm 3 (by kernel_rfl) rfl) ed_int (ixt_nat (k := 1) (get_map g1))) (ed_intB (by kernel_rfl) (H.free 67) (ed_nm 4 (by kernel_rfl) rfl)) o_sub) (era_nil ⟨rfl, ?_⟩))))))
      rw [hn]
      refine x_cons (xd_if (etd_w (ewd_and (etd_cmp (ed_nm 5 (by kernel_rfl) rfl) ed_int o_eq) (fun h => (ewd_and1 (etd_cmp (ed_nm 6 (by kernel_rfl) rfl) ed_int o_lt))))) (fun h => ?_) fun h => x_nil ?_)
      · rw [if_pos (by simpa using h)] at hgo
        exact x_one (x_ret (Ed.ev ed_non (by rw [← hgo]; rfl)))
      rw [if_neg (by simpa using h)] at hgo
      refine x_consI (fun n' ρ' => n' = 0 ∧ ρ' = [.dat (.tup (rs.map rowE)), .dat (.int (loF f nn low)), .dat (oI high), .dat (tI r.1), .dat (.bl r.2), .dat (.int f), .dat (.int nn), s5]) (xd_if (etd_cmp (ed_nm 5 (by kernel_rfl) rfl) ed_int o_gt) (fun hp => ?_) fun hp => x_nil ?_) fun n' ρ' ⟨en, er⟩ => ?_
      · have hp1 : 0 < f := by simpa using hp
        refine x_one (xd_set nd 1 (by kernel_rfl) (ed_blt (by kernel_rfl) (H.free 71) PyProof.Rows.boot_max (eda_cons (ed_nm 1 (by kernel_rfl) rfl) (eda_cons (ed_op ed_int (ed_op (ed_nm 6 (by kernel_rfl) rfl) (ed_nm 5 (by kernel_rfl) rfl) (o_fdiv ?_)) o_sub) eda_nil)) (fun K k => c_max2 k)) ?_)
        · exact wide_div (b := 200) hp1 b0 (by decide) (by decide)
        · refine ⟨rfl, ?_⟩
          unfold loF
          rw [if_pos hp1]
          rfl
      · have hp1 : ¬ 0 < f := by simpa using hp
        refine ⟨rfl, ?_⟩
        unfold loF
        rw [if_neg hp1]
        rfl
      subst en er
      refine x_one (xd_if (etd_cmp (ed_nm 5 (by kernel_rfl) rfl) ed_int o_lt) (fun hf0 => ?_) fun hf0 => x_nil ?_)
      · have hf1 : f < 0 := by simpa using hf0
        unfold hiF at hgo
        rw [if_pos hf1] at hgo
        refine x_cons (xd_set nd 7 (by kernel_rfl) (ed_op (ed_nm 6 (by kernel_rfl) rfl) (ed_op ed_int (ed_nm 5 (by kernel_rfl) rfl) o_sub) (o_fdiv ?_)) ?_)
        · exact wide_div (b := 201) (by omega) (bd_sub (by decide) b0) (by decide) (by decide)
        refine x_one (xd_set nd 2 (by kernel_rfl) (d := .int (hiM f nn high)) (ed_if (etd_cmp (ed_nm 2 (by kernel_rfl) rfl) ed_non o_isN) (fun h => ?_) (fun h => ?_)) ?_)
        · cases high with
          | none => exact ed_nm 7 (by kernel_rfl) rfl
          | some v => cases h
        · cases high with
          | none => cases h
          | some v => exact ed_blt (by kernel_rfl) (H.free 72) PyProof.Rows.boot_min (eda_cons (ed_nm 2 (by kernel_rfl) rfl) (eda_cons (ed_nm 7 (by kernel_rfl) rfl) eda_nil)) (fun K k => c_min2 k)
        · exact ⟨rfl, _, _, _, _, _, _, _, hgo, rfl⟩
      · have hf1 : ¬ f < 0 := by simpa using hf0
        unfold hiF at hgo
        rw [if_neg hf1] at hgo
        exact ⟨rfl, _, _, _, _, _, _, _, hgo, rfl⟩
  · subst e1 e2
    rw [List.drop_of_length_le (by rw [List.length_map]; exact Nat.le_refl _)] at hgo
    unfold lsGo at hgo
    refine x_one (x_ret (Ed.ev (d := oI (lsF rs)) (ed_if (etd_w (b := high.isNone || decide (low ≤ high.getD 0)) ?_) (fun h => ?_) (fun h => ?_)) rfl))
    · cases high with
      | none => exact ewd_or (etd_cmp (ed_nm 2 (by kernel_rfl) rfl) ed_non o_isN) (fun h => by cases h)
      | some v => exact ewd_or (etd_cmp (ed_nm 2 (by kernel_rfl) rfl) ed_non o_isN) (fun h => ewd_or1 (etd_cmp (ed_nm 1 (by kernel_rfl) rfl) (ed_nm 2 (by kernel_rfl) rfl) o_le))
    · rw [if_pos h] at hgo
      rw [← hgo]
      exact ed_nm 1 (by kernel_rfl) rfl
    · rw [if_neg (by rw [h]; decide)] at hgo
      rw [← hgo]
      exact ed_non
end Kb
namespace Kb
open PySem PySem.Spec PyProof.Rows L2
/-- the cases of two kinds -/
def Ms.casesF (m : Ms) (a b : Nat) : List (List Int) := match m with
  | .late ws => flagsF.filter (lateT (ws.getD a 0) (ws.getD b 0))
  | .sum es => (List.range (es.getD a []).length).flatMap fun (i : Nat) => (List.range (es.getD b []).length).map fun (j : Nat) => [(i : Int), (j : Int)]
  | .max es => ((List.range (es.getD a []).length).map fun (i : Nat) => [(0 : Int), (i : Int)]) ++ (List.range (es.getD b []).length).map fun (j : Nat) => [(1 : Int), (j : Int)]
theorem csd_of {m : Ms} {a b : Nat} (ha : a < m.len) (hb : b < m.len) : Csd m a b (m.casesF a b) := by
  cases m with
  | late ws => exact .late (getD_get ha) (getD_get hb)
  | sum es => exact .sum (getD_get ha) (getD_get hb)
  | max es => exact .max (getD_get ha) (getD_get hb)
theorem Csd.uniq {m : Ms} {a b : Nat} {r : List (List Int)} (h : Csd m a b r) : r = m.casesF a b := by
  cases h with
  | late h1 h2 => simp only [Ms.casesF, List.getD_eq_getElem?_getD, h1, h2, Option.getD_some]
  | sum h1 h2 => simp only [Ms.casesF, List.getD_eq_getElem?_getD, h1, h2, Option.getD_some]
  | max h1 h2 => simp only [Ms.casesF, List.getD_eq_getElem?_getD, h1, h2, Option.getD_some]
/-- the rows of a case -/
def Ms.rowsF (m : Ms) (a b : Nat) (c s p d q e : List Int) : List Rw := match m with
  | .late _ => lateRowsF c [vadd s p, vadd (vadd s p) q, vadd s q, vadd (vadd s p) q] [d, e, e, d]
  | .sum es => (costF (es.getD b []) (vadd s q) e).flatMap fun one => (costF (es.getD a []) (vadd (vadd s p) q) d).map fun two => (vless (vadd ((costF (es.getD a []) (vadd s p) d).getD (c.getD 0 0).toNat []) ((costF (es.getD b []) (vadd (vadd s p) q) e).getD (c.getD 1 0).toNat [])) (vadd one two), true)
  | .max es => (costF (es.getD b []) (vadd s q) e ++ costF (es.getD a []) (vadd (vadd s p) q) d).map fun one => (vless (if c.getD 0 0 = 0 then (costF (es.getD a []) (vadd s p) d).getD (c.getD 1 0).toNat [] else (costF (es.getD b []) (vadd (vadd s p) q) e).getD (c.getD 1 0).toNat []) one, true)
theorem Rws.uniq {m : Ms} {a b : Nat} {c s p d q e : List Int} {r : List Rw} (h : Rws m a b c s p d q e r) : r = m.rowsF a b c s p d q e := by
  cases h with
  | late h => rfl
  | sum h1 h2 h3 h4 => simp [Ms.rowsF, List.getD_eq_getElem?_getD, h1, h2, h3, h4]
  | max h1 h2 h3 =>
    rcases h3 with ⟨rfl, h3⟩ | ⟨rfl, h3⟩
    · simp [Ms.rowsF, List.getD_eq_getElem?_getD, h1, h2, h3]
    · simp [Ms.rowsF, List.getD_eq_getElem?_getD, h1, h2, h3]
theorem costF_len (l : List (Int × Int)) (e d : List Int) : (costF l e d).length = l.length := by simp [costF]
theorem rws_of {m : Ms} {a b : Nat} {c s p d q e : List Int} (ha : a < m.len) (hb : b < m.len) (hc : c ∈ m.casesF a b) : Rws m a b c s p d q e (m.rowsF a b c s p d q e) := by
  cases m with
  | late ws => exact .late (flagsF_ok c (List.mem_filter.mp hc).1).1
  | sum es =>
    obtain ⟨i, hi, hc⟩ := List.mem_flatMap.mp hc
    obtain ⟨j, hj, rfl⟩ := List.mem_map.mp hc
    have ea := getD_get (d := []) ha
    have eb := getD_get (d := []) hb
    have hi' : i < (es.getD a []).length := by simpa using hi
    have hj' : j < (es.getD b []).length := by simpa using hj
    have := Rws.sum (s := s) (p := p) (d := d) (q := q) (e := e) ea eb (getD_get (d := []) (l := costF (es.getD a []) (vadd s p) d) (k := i) (by rw [costF_len]; exact hi')) (getD_get (d := []) (l := costF (es.getD b []) (vadd (vadd s p) q) e) (k := j) (by rw [costF_len]; exact hj'))
    exact this.uniq ▸ this
  | max es =>
    have ea := getD_get (d := []) ha
    have eb := getD_get (d := []) hb
    rcases List.mem_append.mp hc with hc | hc
    · obtain ⟨i, hi, rfl⟩ := List.mem_map.mp hc
      have hi' : i < (es.getD a []).length := by simpa using hi
      have := Rws.max (j := 0) (s := s) (p := p) (d := d) (q := q) (e := e) ea eb (.inl ⟨rfl, getD_get (d := []) (l := costF (es.getD a []) (vadd s p) d) (k := i) (by rw [costF_len]; exact hi')⟩)
      exact this.uniq ▸ this
    · obtain ⟨i, hi, rfl⟩ := List.mem_map.mp hc
      have hi' : i < (es.getD b []).length := by simpa using hi
      have := Rws.max (j := 1) (s := s) (p := p) (d := d) (q := q) (e := e) ea eb (.inr ⟨rfl, getD_get (d := []) (l := costF (es.getD b []) (vadd (vadd s p) q) e) (k := i) (by rw [costF_len]; exact hi')⟩)
      exact this.uniq ▸ this
theorem bd_lateRows {c : List Int} {es us : List (List Int)} (h1 : ∀ x ∈ es, Fm 145 x) (h2 : ∀ x ∈ us, Fm 145 x) : ∀ r ∈ lateRowsF c es us, Fm 147 r.1 := fun r hr => by
  obtain ⟨q, hq, rfl⟩ := List.mem_map.mp hr
  have hy := List.of_mem_zip (List.of_mem_zip (a := q.1) (b := q.2) hq).2
  split
  · exact (h1 _ hy.1).less (h2 _ hy.2)
  · exact (h2 _ hy.2).less (h1 _ hy.1)
theorem rws_fm {m : Ms} {a b : Nat} {c s p d q e : List Int} {r : List Rw} (h : Rws m a b c s p d q e r) (ho : m.Ok) (fs : Fm 70 s) (fp : Fm 70 p) (fd : Fm 70 d) (fq : Fm 70 q) (fe : Fm 70 e) : ∀ x ∈ r, Fm 200 x.1 := by
  have f1 := fs.add fp
  have f2 := fs.add fq
  have f3 := f1.add (fq.mono (by decide))
  cases h with
  | late hc =>
    intro x hx
    refine (bd_lateRows (fun y hy => ?_) (fun y hy => ?_) x hx).mono (by decide)
    · simp only [List.mem_cons, List.not_mem_nil, or_false] at hy
      rcases hy with rfl | rfl | rfl | rfl
      · exact f1.mono (by decide)
      · exact f3.mono (by decide)
      · exact f2.mono (by decide)
      · exact f3.mono (by decide)
    · simp only [List.mem_cons, List.not_mem_nil, or_false] at hy
      rcases hy with rfl | rfl | rfl | rfl
      · exact fd.mono (by decide)
      · exact fe.mono (by decide)
      · exact fe.mono (by decide)
      · exact fd.mono (by decide)
  | sum ea eb ex ey =>
    have oa := (Ent.sum ea).ok ho
    have ob := (Ent.sum eb).ok ho
    intro x hx
    obtain ⟨one, h1, hx⟩ := List.mem_flatMap.mp hx
    obtain ⟨two, h2, rfl⟩ := List.mem_map.mp hx
    have g1 := costF_fm oa (f1.mono (by decide : 71 ≤ 80)) (fd.mono (by decide : 70 ≤ 80)) _ (List.mem_of_getElem? ex)
    have g2 := costF_fm ob (f3.mono (by decide : 72 ≤ 80)) (fe.mono (by decide : 70 ≤ 80)) _ (List.mem_of_getElem? ey)
    have g3 := costF_fm ob (f2.mono (by decide : 71 ≤ 80)) (fe.mono (by decide : 70 ≤ 80)) _ h1
    have g4 := costF_fm oa (f3.mono (by decide : 72 ≤ 80)) (fd.mono (by decide : 70 ≤ 80)) _ h2
    exact ((g1.add g2).less (g3.add g4)).mono (by decide)
  | @max es a b i j s p d q e w la lb ea eb ex =>
    have oa := (Ent.max ea).ok ho
    have ob := (Ent.max eb).ok ho
    intro x hx
    obtain ⟨one, h1, rfl⟩ := List.mem_map.mp hx
    have g1 : Fm 145 w := by
      rcases ex with ⟨_, ex⟩ | ⟨_, ex⟩
      · exact costF_fm oa (f1.mono (by decide : 71 ≤ 80)) (fd.mono (by decide : 70 ≤ 80)) _ (List.mem_of_getElem? ex)
      · exact costF_fm ob (f3.mono (by decide : 72 ≤ 80)) (fe.mono (by decide : 70 ≤ 80)) _ (List.mem_of_getElem? ex)
    have g2 : Fm 145 one := (List.mem_append.mp h1).elim (costF_fm ob (f2.mono (by decide : 71 ≤ 80)) (fe.mono (by decide : 70 ≤ 80)) _) (costF_fm oa (f3.mono (by decide : 72 ≤ 80)) (fd.mono (by decide : 70 ≤ 80)) _)
    exact (g1.less g2).mono (by decide)
/-- a job -/
structure Jb where
  k : Nat
  t : Int
  u : Int
def Jb.enc (j : Jb) : Dat := .tup [.int (j.k : Nat), .int j.t, .int j.u]
structure Jb.Ok (m : Nat) (j : Jb) : Prop where
  k : j.k < m
  t : 0 < j.t ∧ Bd 69 j.t
  u : 0 ≤ j.u ∧ Bd 69 j.u
/-- the first start at which y ahead of x costs more: x = cat[i], y = cat[j] -/
def startsF (m : Ms) (x y : Jb) : List Int := (m.casesF y.k x.k).filterMap fun c => lsF (m.rowsF y.k x.k c [1, 0] [0, y.t] [0, y.u] [0, x.t] [0, x.u])
def minO : List Int → Option Int
  | [] => none
  | n :: ns => some (ns.foldl min n)
def firstF (m : Ms) (x y : Jb) : Option Int := minO (startsF m x y)
theorem minO_is {ns : List Int} {m : Int} (h : m ∈ ns) (h2 : ∀ y ∈ ns, m ≤ y) : minO ns = some m := by
  cases ns with
  | nil => cases h
  | cons n ns =>
    obtain ⟨h3, h4⟩ := minD_mem n ns
    exact congrArg some (Int.le_antisymm (h4 m h) (h2 _ h3))
theorem ed_oI {S : Sg} {g : Wd} {e : Expr} {ρ : En} {o : Option Int} (h : Ed S g e ρ (oI o)) : Ed S g e ρ (oI o) := h
abbrev N_first_start : List Str := ["measure", "catalogue", "i", "j", "A", "p", "d", "B", "q", "e", "found", "case", "start"]
theorem sc_first_start : FnScope N_first_start ["measure", "catalogue", "i", "j"] (defScope s_first_start) := ⟨rfl, rfl, rfl, by decide +kernel, rfl, by decide +kernel, by decide +kernel⟩
def R_first_start (ds : List Dat) (dd : Dat) : Prop := ∃ (m : Ms) (cat : List Jb) (i j : Nat) (x y : Jb), ds = [m.enc, .tup (cat.map Jb.enc), .int (i : Nat), .int (j : Nat)] ∧ m.Ok ∧ cat[i]? = some x ∧ cat[j]? = some y ∧ x.Ok m.len ∧ y.Ok m.len ∧ dd = oI (firstF m x y)
theorem casesF_len {m : Ms} (ho : m.Ok) {a b : Nat} (ha : a < m.len) (hb : b < m.len) : (m.casesF a b).length ≤ 400 := by
  cases m with
  | late ws => exact Nat.le_trans (List.length_filter_le _ _) (by decide +kernel)
  | sum es =>
    have h1 := (ho.2 _ (getD_mem (d := []) ha)).2.1
    have h2 := (ho.2 _ (getD_mem (d := []) hb)).2.1
    refine Nat.le_trans (fm_len (k := 20) fun y hy => by simpa using h2) ?_
    rw [List.length_range]
    omega
  | max es =>
    have h1 := (ho.2 _ (getD_mem (d := []) ha)).2.1
    have h2 := (ho.2 _ (getD_mem (d := []) hb)).2.1
    show (_ ++ _ : List (List Int)).length ≤ 400
    rw [List.length_append, List.length_map, List.length_map, List.length_range, List.length_range]
    omega
theorem fm_one {i : Int} (h : Bd 69 i) : Fm 70 [0, i] := ⟨rfl, fun x hx => by
  simp only [List.mem_cons, List.not_mem_nil, or_false] at hx
  rcases hx with rfl | rfl
  · decide
  · exact h.mono (by decide)⟩
theorem ok_first_start {G : Gc} (H : Head G) : HasF G "first_start" 5 4 (PureSp 4 R_first_start) := by
  refine H.pure (st := s_first_start) (ps := ["measure", "catalogue", "i", "j"]) 33 25 (by kernel_rfl) (by kernel_rfl) sc_first_start (fun _ _ _ _ _ _ us hl => match us, hl with | [_, _, _, _], _ => rfl) fun A hr ds dd hl hR => ?_
  have nd := sc_first_start.nd
  obtain ⟨m, cat, i, j, x, y, rfl, ho, ex, ey, ox, oy, rfl⟩ := hR
  refine x_cons (x_asg (Ed.ev (ed_tup (eda_cons (ed_ix (ed_nm 1 (by kernel_rfl) rfl) (ed_nm 3 (by kernel_rfl) rfl) (ixt_nat (get_map ey))) (eda_cons (ed_ix (ed_nm 1 (by kernel_rfl) rfl) (ed_nm 2 (by kernel_rfl) rfl) (ixt_nat (get_map ex))) eda_nil)) (by simp)) ⟨_, (gd_tup (gds_cons (gd_tup (gds_cons (gd_nm nd 4 (by kernel_rfl)) (gds_cons (gd_nm nd 5 (by kernel_rfl)) (gds_cons (gd_nm nd 6 (by kernel_rfl)) gds_nil)))) (gds_cons (gd_tup (gds_cons (gd_nm nd 7 (by kernel_rfl)) (gds_cons (gd_nm nd 8 (by kernel_rfl)) (gds_cons (gd_nm nd 9 (by kernel_rfl)) gds_nil)))) gds_nil))), ?_⟩) (by intro _; rfl) (fun env he => by rw [swapped_of he]; kernel_rfl))
  refine x_cons (xd_setN nd 10 (by kernel_rfl) (by simp [startE]) (edn_lst eda_nil) ?_)
  have hcs := csd_of oy.k ox.k
  have hlen := casesF_len ho oy.k ox.k
  refine x_cons (x_for (EdI.ev (edi_lst (ed_call (ok_cases H) (hr.mono (by decide)) (by kernel_rfl) (eda_cons (ed_nm 0 (by kernel_rfl) rfl) (eda_cons (ed_nm 4 (by kernel_rfl) rfl) (eda_cons (ed_nm 7 (by kernel_rfl) rfl) eda_nil))) ⟨m, y.k, x.k, _, rfl, ho, hcs, rfl⟩)) ⟨fun i' n ρ => n = 0 ∧ ∃ s1 s2, ρ = [.dat m.enc, .dat (.tup (cat.map Jb.enc)), .dat (.int (i : Nat)), .dat (.int (j : Nat)), .dat (.int (y.k : Nat)), .dat (.int y.t), .dat (.int y.u), .dat (.int (x.k : Nat)), .dat (.int x.t), .dat (.int x.u), .own ((((m.casesF y.k x.k).take i').filterMap fun c => lsF (m.rowsF y.k x.k c [1, 0] [0, y.t] [0, y.u] [0, x.t] [0, x.u])).map .int), s1, s2], ⟨rfl, .no, .no, rfl⟩, fun i' z n2 ρ2 hz ⟨e1, s1, s2, e2⟩ => ?_, fun n2 ρ2 ⟨e1, s1, s2, e2⟩ => ?_⟩))
  · subst e1 e2
    rw [List.getElem?_map] at hz
    cases hq : (m.casesF y.k x.k)[i']? with
    | none => rw [hq] at hz; cases hz
    | some c =>
      rw [hq] at hz
      cases hz
      have hrw := rws_of (s := [1, 0]) (p := [0, y.t]) (d := [0, y.u]) (q := [0, x.t]) (e := [0, x.u]) oy.k ox.k (List.mem_of_getElem? hq)
      have fs : Fm 70 [1, 0] := ⟨rfl, by decide⟩
      have hfm := rws_fm hrw ho fs (fm_one oy.t.2) (fm_one oy.u.2) (fm_one ox.t.2) (fm_one ox.u.2)
      refine ⟨_, _, gd_nm nd 11 (by kernel_rfl), x_cons (xd_set nd 12 (by kernel_rfl) (ed_call (ok_least_start H) (hr.mono (by decide)) (by kernel_rfl) (eda_cons (ed_call (ok_case_rows H) (hr.mono (by decide)) (by kernel_rfl) (eda_cons (ed_nm 0 (by kernel_rfl) rfl) (eda_cons (ed_nm 4 (by kernel_rfl) rfl) (eda_cons (ed_nm 7 (by kernel_rfl) rfl) (eda_cons (ed_nm 11 (by kernel_rfl) rfl) (eda_cons (ed_tup (eda_cons ed_int (eda_cons ed_int eda_nil)) (by simp)) (eda_cons (ed_tup (eda_cons ed_int (eda_cons (ed_nm 5 (by kernel_rfl) rfl) eda_nil)) (by simp)) (eda_cons (ed_tup (eda_cons ed_int (eda_cons (ed_nm 6 (by kernel_rfl) rfl) eda_nil)) (by simp)) (eda_cons (ed_tup (eda_cons ed_int (eda_cons (ed_nm 8 (by kernel_rfl) rfl) eda_nil)) (by simp)) (eda_cons (ed_tup (eda_cons ed_int (eda_cons (ed_nm 9 (by kernel_rfl) rfl) eda_nil)) (by simp)) eda_nil))))))))) ⟨m, y.k, x.k, c, [1, 0], [0, y.t], [0, y.u], [0, x.t], [0, x.u], _, rfl, ho, fs, fm_one oy.t.2, fm_one oy.u.2, fm_one ox.t.2, fm_one ox.u.2, hrw, rfl⟩) eda_nil) ⟨_, rfl, hfm, rfl⟩) ?_)⟩
      have et : ((m.casesF y.k x.k).take (i' + 1)).filterMap (fun c => lsF (m.rowsF y.k x.k c [1, 0] [0, y.t] [0, y.u] [0, x.t] [0, x.u])) = ((m.casesF y.k x.k).take i').filterMap (fun c => lsF (m.rowsF y.k x.k c [1, 0] [0, y.t] [0, y.u] [0, x.t] [0, x.u])) ++ (lsF (m.rowsF y.k x.k c [1, 0] [0, y.t] [0, y.u] [0, x.t] [0, x.u])).toList := by
        rw [List.take_add_one, hq, List.filterMap_append]
        show _ ++ [c].filterMap _ = _
        rw [List.filterMap_cons, List.filterMap_nil]
        cases lsF (m.rowsF y.k x.k c [1, 0] [0, y.t] [0, y.u] [0, x.t] [0, x.u]) <;> rfl
      cases hls : lsF (m.rowsF y.k x.k c [1, 0] [0, y.t] [0, y.u] [0, x.t] [0, x.u]) with
      | none =>
        rw [hls] at et
        refine x_one (xd_if (etd_cmp (ed_nm 12 (by kernel_rfl) rfl) ed_non o_notN) (fun h => absurd h (by decide)) fun h => x_nil ⟨rfl, .dat (tI c), .dat .non, ?_⟩)
        · rw [et, show (none : Option Int).toList = [] from rfl, List.append_nil]
          rfl
      | some v =>
        rw [hls] at et
        refine x_one (xd_if (etd_cmp (ed_nm 12 (by kernel_rfl) rfl) ed_non o_notN) (fun h => x_one (x_app 10 (by kernel_rfl) rfl ?_ (Ed.ev (ed_nm 12 (by kernel_rfl) rfl) ⟨rfl, .dat (tI c), .dat (.int v), ?_⟩))) fun h => by cases h)
        · rw [List.length_map]
          refine Nat.le_trans (List.length_filterMap_le _ _) ?_
          rw [List.length_take]
          omega
        · rw [et, List.map_append]
          rfl
  · subst e1 e2
    rw [List.take_of_length_le (by rw [List.length_map]; exact Nat.le_refl _)]
    refine x_freeze (i := 10) rfl (x_one (x_ret (Ed.ev (ed_minD (ns := startsF m x y) (d := oI (firstF m x y)) hr (by kernel_rfl) (H.free 72) (ed_nm 10 (by kernel_rfl) rfl) (fun h => ?_) (fun v h1 h2 => ?_)) rfl)))
    · unfold firstF; rw [h]; rfl
    · unfold firstF; rw [minO_is h1 h2]; rfl
end Kb
namespace Kb
open PySem PySem.Spec PyProof.Rows L2
abbrev Dm := Nat × Nat × Int
def dE (d : Dm) : Dat := .tup [.int (d.1 : Nat), .int (d.2.1 : Nat), .int d.2.2]
def jb (cat : List Jb) (i : Nat) : Jb := cat.getD i ⟨0, 0, 0⟩
def dmAt (m : Ms) (cat : List Jb) (i j : Nat) : Option Dm := (firstF m (jb cat i) (jb cat j)).map fun s => (i, j, s)
def demandsF (m : Ms) (cat : List Jb) : List Dm := (List.range cat.length).flatMap fun i => (List.range cat.length).filterMap fun j => dmAt m cat i j
def okCat (m : Ms) (cat : List Jb) : Prop := cat.length ≤ 4 ∧ ∀ x ∈ cat, x.Ok m.len
theorem fm_snoc {α β : Type} {f : α → Option β} {l : List α} {x : α} : (l ++ [x]).filterMap f = l.filterMap f ++ (f x).toList := by
  rw [List.filterMap_append, List.filterMap_cons, List.filterMap_nil]
  cases f x <;> rfl
theorem rgD_at {n i : Nat} {x : Dat} (h : (rgD 0 n)[i]? = some x) : i < n ∧ x = .int (i : Nat) := by
  have hi : i < n := by
    have := (List.getElem?_eq_some_iff.mp h).1
    rwa [rgD_len] at this
  rw [rgD_get hi] at h
  cases h
  exact ⟨hi, by rw [Int.zero_add]⟩
abbrev N_demands : List Str := ["measure", "catalogue", "found", "i", "j", "start"]
theorem sc_demands : FnScope N_demands ["measure", "catalogue"] (defScope s_demands) := ⟨rfl, rfl, rfl, by decide +kernel, rfl, by decide +kernel, by decide +kernel⟩
def R_demands (ds : List Dat) (d : Dat) : Prop := ∃ (m : Ms) (cat : List Jb), ds = [m.enc, .tup (cat.map Jb.enc)] ∧ m.Ok ∧ okCat m cat ∧ d = .lst ((demandsF m cat).map dE)
theorem dm_len (m : Ms) (cat : List Jb) (i : Nat) (l : List Nat) : (l.filterMap fun j => dmAt m cat i j).length ≤ l.length := List.length_filterMap_le _ _
theorem ok_demands {G : Gc} (H : Head G) : HasF G "demands" 6 2 (PureSp 2 R_demands) := by
  refine H.pure (st := s_demands) (ps := ["measure", "catalogue"]) 34 26 (by kernel_rfl) (by kernel_rfl) sc_demands (fun _ _ _ _ _ _ us hl => match us, hl with | [_, _], _ => rfl) fun A hr ds d hl hR => ?_
  have nd := sc_demands.nd
  obtain ⟨m, cat, rfl, ho, ⟨hn, hc⟩, rfl⟩ := hR
  have hlen : ((cat.map Jb.enc).length : Int).toNat = cat.length := by rw [List.length_map]; exact Int.toNat_natCast _
  refine x_cons (xd_setN nd 2 (by kernel_rfl) (by simp [startE]) (edn_lst eda_nil) ?_)
  refine x_cons (x_for (EdI.ev (edi_rng1 (by kernel_rfl) (H.free 73) (ed_len (xs := cat.map Jb.enc) (by kernel_rfl) (H.free 69) (ed_nm 1 (by kernel_rfl) rfl) (by exact rfl)) (by rw [List.length_map]; omega) (by rw [List.length_map]; omega)) ⟨fun i n ρ => n = 0 ∧ ∃ s1 s2 s3, ρ = [.dat m.enc, .dat (.tup (cat.map Jb.enc)), .own (((List.range i).flatMap fun i => (List.range cat.length).filterMap fun j => dmAt m cat i j).map dE), s1, s2, s3], ⟨rfl, .no, .no, .no, rfl⟩, fun i x n2 ρ2 hx ⟨e1, s1, s2, s3, e2⟩ => ?_, fun n2 ρ2 ⟨e1, s1, s2, s3, e2⟩ => ?_⟩))
  · subst e1 e2
    rw [hlen] at hx
    obtain ⟨hi, rfl⟩ := rgD_at hx
    refine ⟨_, _, gd_nm nd 3 (by kernel_rfl), x_one (x_for (EdI.ev (edi_rng1 (by kernel_rfl) (H.free 73) (ed_len (xs := cat.map Jb.enc) (by kernel_rfl) (H.free 69) (ed_nm 1 (by kernel_rfl) rfl) (by exact rfl)) (by rw [List.length_map]; omega) (by rw [List.length_map]; omega)) ⟨fun j n ρ => n = 0 ∧ ∃ s2 s3, ρ = [.dat m.enc, .dat (.tup (cat.map Jb.enc)), .own ((((List.range i).flatMap fun i => (List.range cat.length).filterMap fun j => dmAt m cat i j) ++ (List.range j).filterMap fun j => dmAt m cat i j).map dE), .dat (.int (i : Nat)), s2, s3], ⟨rfl, s2, s3, by simp⟩, fun j x n2 ρ2 hx ⟨e1, s2, s3, e2⟩ => ?_, fun n2 ρ2 ⟨e1, s2, s3, e2⟩ => ?_⟩))⟩
    · subst e1 e2
      rw [hlen] at hx
      obtain ⟨hj, rfl⟩ := rgD_at hx
      have gi : cat[i]? = some (jb cat i) := getD_get hi
      have gj : cat[j]? = some (jb cat j) := getD_get hj
      refine ⟨_, _, gd_nm nd 4 (by kernel_rfl), x_cons (xd_set nd 5 (by kernel_rfl) (ed_call (ok_first_start H) (hr.mono (by decide)) (by kernel_rfl) (eda_cons (ed_nm 0 (by kernel_rfl) rfl) (eda_cons (ed_nm 1 (by kernel_rfl) rfl) (eda_cons (ed_nm 3 (by kernel_rfl) rfl) (eda_cons (ed_nm 4 (by kernel_rfl) rfl) eda_nil)))) ⟨m, cat, i, j, _, _, rfl, ho, gi, gj, hc _ (List.mem_of_getElem? gi), hc _ (List.mem_of_getElem? gj), rfl⟩) ?_)⟩
      have et := fm_snoc (f := fun j => dmAt m cat i j) (l := List.range j) (x := j)
      rw [← List.range_succ] at et
      unfold dmAt at et
      cases hf : firstF m (jb cat i) (jb cat j) with
      | none =>
        rw [hf] at et
        refine x_one (xd_if (etd_cmp (ed_nm 5 (by kernel_rfl) rfl) ed_non o_notN) (fun h => absurd h (by decide)) fun h => x_nil ⟨rfl, .dat (.int (j : Nat)), .dat .non, ?_⟩)
        unfold dmAt
        rw [et]
        simp
        rfl
      | some v =>
        rw [hf] at et
        refine x_one (xd_if (etd_cmp (ed_nm 5 (by kernel_rfl) rfl) ed_non o_notN) (fun h => x_one (x_app 2 (by kernel_rfl) rfl ?_ (Ed.ev (d := dE (i, j, v)) (ed_tup (eda_cons (ed_nm 3 (by kernel_rfl) rfl) (eda_cons (ed_nm 4 (by kernel_rfl) rfl) (eda_cons (ed_nm 5 (by kernel_rfl) rfl) eda_nil))) (by simp)) ⟨rfl, .dat (.int (j : Nat)), .dat (.int v), ?_⟩))) fun h => by cases h)
        · rw [List.length_map, List.length_append]
          have h1 := fm_len (l := List.range i) (k := 4) (f := fun i => (List.range cat.length).filterMap fun j => dmAt m cat i j) fun y _ => by
            have := dm_len m cat y (List.range cat.length)
            rw [List.length_range] at this
            omega
          have h2 := dm_len m cat i (List.range j)
          rw [List.length_range] at h1 h2
          omega
        · unfold dmAt
          rw [et]
          simp
          rfl
    · subst e1 e2
      rw [rgD_len, hlen]
      refine ⟨rfl, .dat (.int (i : Nat)), s2, s3, ?_⟩
      rw [List.range_succ, List.flatMap_append, List.flatMap_singleton]
  · subst e1 e2
    rw [rgD_len, hlen]
    exact x_freeze (i := 2) rfl (x_one (x_ret (Ed.ev (ed_nm 2 (by kernel_rfl) rfl) rfl)))
end Kb
namespace Kb
open PySem PySem.Spec PyProof.Rows L2
def vplus (a b : List Int) (f : Int) : List Int := List.zipWith (fun x y => x + f * y) a b
theorem vplus_less (a b : List Int) : vplus a b (-1) = vless a b := by
  unfold vplus vless vadd vsc
  rw [List.zipWith_map_right]
theorem vplus_add (a b : List Int) : vplus a b 1 = vadd a b := by simp [vplus, vadd]
theorem vplus_sc (a b : List Int) (u v : Int) : vplus (vsc u a) b v = vadd (vsc u a) (vsc v b) := by
  unfold vplus vadd vsc
  rw [List.zipWith_map_right]
theorem vless_less : ∀ a b c : List Int, a.length = 2 → b.length = 2 → c.length = 2 → vless (vless a b) c = vless a (vadd b c)
  | [a, a'], [b, b'], [c, c'], _, _, _ => by
    simp only [vless, vadd, vsc, List.zipWith_cons_cons, List.map_cons, List.map_nil, List.zipWith_nil_right, List.zipWith_nil_left]
    congr 1
    · omega
    · congr 1
      omega
abbrev N__law_plus : List Str := ["_law_one", "_law_other", "_law_factor", "_law_a", "_law_b"]
theorem sc__law_plus : FnScope N__law_plus ["_law_one", "_law_other", "_law_factor"] (defScope s__law_plus) := ⟨rfl, rfl, rfl, by decide +kernel, rfl, by decide +kernel, by decide +kernel⟩
def R__law_plus (ds : List Dat) (d : Dat) : Prop := ∃ (a b : List Int) (f : Int), ds = [tI a, tI b, .int f] ∧ a.length = b.length ∧ a.length ≤ 1000 ∧ (∀ x ∈ b, CMulW f x) ∧ d = tI (vplus a b f)
theorem ok__law_plus {G : Gc} (H : Head G) : HasF G "_law_plus" 1 3 (PureSp 3 R__law_plus) := by
  refine H.pure (st := s__law_plus) (ps := ["_law_one", "_law_other", "_law_factor"]) 55 47 (by kernel_rfl) (by kernel_rfl) sc__law_plus (fun _ _ _ _ _ _ us hl => match us, hl with | [_, _, _], _ => rfl) fun A hr ds d hl hR => ?_
  have nd := sc__law_plus.nd
  obtain ⟨a, b, f, rfl, hlen, hz, hb, rfl⟩ := hR
  refine x_one (x_ret (Ed.ev (ed_tupleL (by kernel_rfl) (H.free 78) (EdN.ed (edn_lcm nd [("_law_a", 3), ("_law_b", 4)] (by kernel_rfl) (ys := a.zip b) (enc := fun p => .tup [.int p.1, .int p.2]) ((edi_zip2 (by kernel_rfl) (H.free 79) (ed_nm 0 (by kernel_rfl) rfl) (ed_nm 1 (by kernel_rfl) rfl) (by exact rfl) (by exact rfl) (by simpa using hlen)).is (zp2_ints a b)) (by rw [List.length_zip]; omega) (fun y hy => ⟨_, _, (by simp), (gd_tup (gds_cons (gd_nm nd 3 (by kernel_rfl)) (gds_cons (gd_nm nd 4 (by kernel_rfl)) gds_nil))), (ed_op (ed_nm 3 (by kernel_rfl) rfl) (ed_op (ed_nm 2 (by kernel_rfl) rfl) (ed_nm 4 (by kernel_rfl) rfl) (o_mul ?_)) o_add)⟩)))) ?_))
  · exact hb _ (List.of_mem_zip (a := y.1) (b := y.2) hy).2
  · simp [tI, vplus, List.zip]
abbrev N__law_scaled : List Str := ["_law_form", "_law_factor", "_law_a"]
theorem sc__law_scaled : FnScope N__law_scaled ["_law_form", "_law_factor"] (defScope s__law_scaled) := ⟨rfl, rfl, rfl, by decide +kernel, rfl, by decide +kernel, by decide +kernel⟩
def R__law_scaled (ds : List Dat) (d : Dat) : Prop := ∃ (f : Int) (l : List Int), ds = [tI l, .int f] ∧ l.length ≤ 1000 ∧ (∀ x ∈ l, CMulW f x) ∧ d = tI (vsc f l)
theorem ok__law_scaled {G : Gc} (H : Head G) : HasF G "_law_scaled" 1 2 (PureSp 2 R__law_scaled) := by
  refine H.pure (st := s__law_scaled) (ps := ["_law_form", "_law_factor"]) 56 48 (by kernel_rfl) (by kernel_rfl) sc__law_scaled (fun _ _ _ _ _ _ us hl => match us, hl with | [_, _], _ => rfl) fun A hr ds d hl hR => ?_
  have nd := sc__law_scaled.nd
  obtain ⟨f, l, rfl, hlen, hb, rfl⟩ := hR
  refine x_one (x_ret (Ed.ev (ed_tupleL (by kernel_rfl) (H.free 78) (EdN.ed (edn_lcm nd [("_law_a", 2)] (by kernel_rfl) (ys := l) (enc := .int) (edi_tup (ed_nm 0 (by kernel_rfl) rfl)) hlen (fun y hy => ⟨_, _, (by simp), (gd_nm nd 2 (by kernel_rfl)), (ed_op (ed_nm 1 (by kernel_rfl) rfl) (ed_nm 2 (by kernel_rfl) rfl) (o_mul (hb y hy)))⟩)))) ?_))
  simp [tI, vsc]
/-! the law's cases -/
def bits (k : Nat) : List Int := [(k : Int) / 8, (k : Int) / 4 % 2, (k : Int) / 2 % 2, (k : Int) % 2]
theorem bits_flags : (List.range 16).map bits = flagsF := by decide +kernel
abbrev N__law_cases : List Str := ["_law_measure", "_law_ka", "_law_kb", "_law_first_here", "_law_second", "_law_found", "_law_k", "_law_one", "_law_late", "_law_i", "_law_j"]
theorem sc__law_cases : FnScope N__law_cases ["_law_measure", "_law_ka", "_law_kb"] (defScope s__law_cases) := ⟨rfl, rfl, rfl, by decide +kernel, rfl, by decide +kernel, by decide +kernel⟩
theorem pairs_flat (a b : Nat) : (List.range (a * b)).map (fun k => [((k / b : Nat) : Int), ((k % b : Nat) : Int)]) = (List.range a).flatMap fun (i : Nat) => (List.range b).map fun (j : Nat) => [(i : Int), (j : Int)] := by
  induction a with
  | zero => simp
  | succ a ih =>
    rw [List.range_succ, List.flatMap_append, List.flatMap_singleton, ← ih, Nat.succ_mul, List.range_add, List.map_append, List.map_map]
    congr 1
    refine List.map_congr_left fun j hj => ?_
    have hj' : j < b := by simpa using hj
    simp only [Function.comp_apply]
    rw [Nat.mul_comm a b, Nat.mul_add_div (by omega), Nat.mul_add_mod, Nat.div_eq_of_lt hj', Nat.mod_eq_of_lt hj', Nat.add_zero]
theorem ok__law_cases {G : Gc} (H : Head G) : HasF G "_law_cases" 2 3 (PureSp 3 R_cases) := by
  refine H.pure (st := s__law_cases) (ps := ["_law_measure", "_law_ka", "_law_kb"]) 57 49 (by kernel_rfl) (by kernel_rfl) sc__law_cases (fun _ _ _ _ _ _ us hl => match us, hl with | [_, _, _], _ => rfl) fun A hr ds d hl hR => ?_
  have nd := sc__law_cases.nd
  obtain ⟨m, a, b, r, rfl, ho, hc, rfl⟩ := hR
  cases hc with
  | @late ws a b wa wb ha hb =>
    have ba := ho.2 wa (List.mem_of_getElem? ha)
    have bb := ho.2 wb (List.mem_of_getElem? hb)
    refine x_cons (x_pack nd [3, 4] (.cons (by kernel_rfl) (.cons (by kernel_rfl) .nil)) (by simp [startE]) (by decide) (era_dat (Ed.ev (ed_ix (ed_ix (ed_nm 0 (by kernel_rfl) rfl) ed_int (.tup rfl)) (ed_nm 1 (by kernel_rfl) rfl) (ixt_nat (get_map ha))) (era_dat (Ed.ev (ed_ix (ed_ix (ed_nm 0 (by kernel_rfl) rfl) ed_int (.tup rfl)) (ed_nm 2 (by kernel_rfl) rfl) (ixt_nat (get_map hb))) (era_nil ⟨rfl, ?_⟩))))) (by kernel_rfl))
    refine x_cons (xd_if (etd_cmp (ed_way (m := .late ws) (ed_nm 0 (by kernel_rfl) rfl)) ed_str o_eqS) (fun h => ?_) fun h => absurd (show decide (("late" : Str) = "late") = false from h) (by decide))
    refine x_cons (xd_setN nd 5 (by kernel_rfl) (by simp [startE, setR]) (edn_lst eda_nil) ?_)
    refine x_cons (x_for (EdI.ev (edi_rng1 (by kernel_rfl) (H.free 73) ed_int (by decide) (by decide)) ⟨fun i n ρ => n = 0 ∧ ∃ s1 s2 s3, ρ = [.dat (Ms.late ws).enc, .dat (.int (a : Nat)), .dat (.int (b : Nat)), .dat (.int wa), .dat (.int wb), .own ((((List.range i).map bits).filter (lateT wa wb)).map tI), s1, s2, s3, .no, .no], ⟨rfl, .no, .no, .no, rfl⟩, fun i x n2 ρ2 hx ⟨e1, s1, s2, s3, e2⟩ => ?_, fun n2 ρ2 ⟨e1, s1, s2, s3, e2⟩ => ?_⟩))
    · subst e1 e2
      obtain ⟨hi, rfl⟩ := rgD_at hx
      have hi' : i < 16 := hi
      have hb4 := flagsF_ok (bits i) (by rw [← bits_flags]; exact List.mem_map_of_mem (List.mem_range.mpr hi'))
      have g : ∀ k, k < 4 → Bd 1 ((bits i).getD k 0) := fun k hk => bd01 (hb4.2 _ (getD_mem (by rw [hb4.1]; exact hk)))
      have dv : ∀ j : Int, 0 < j → j < 100 → CDivW (i : Int) j := fun j h0 h1 => wide_div (b := 7) h0 (by omega) (by decide) (by decide)
      refine ⟨_, _, gd_nm nd 6 (by kernel_rfl), x_cons (xd_set nd 7 (by kernel_rfl) (d := tI (bits i)) (ed_tup (eda_cons (ed_op (ed_nm 6 (by kernel_rfl) rfl) ed_int (o_fdiv (dv 8 (by decide) (by decide)))) (eda_cons (ed_op (ed_int1 (by kernel_rfl) (H.free 67) (ed_op (ed_nm 6 (by kernel_rfl) rfl) ed_int (o_fdiv (dv 4 (by decide) (by decide))))) ed_int (o_mod (by decide))) (eda_cons (ed_op (ed_int1 (by kernel_rfl) (H.free 67) (ed_op (ed_nm 6 (by kernel_rfl) rfl) ed_int (o_fdiv (dv 2 (by decide) (by decide))))) ed_int (o_mod (by decide))) (eda_cons (ed_op (ed_int1 (by kernel_rfl) (H.free 67) (ed_nm 6 (by kernel_rfl) rfl)) ed_int (o_mod (by decide))) eda_nil)))) (by simp [bits])) ?_)⟩
      refine x_cons (xd_set nd 8 (by kernel_rfl) (ed_op (ed_op (ed_nm 3 (by kernel_rfl) rfl) (ed_ix (ed_nm 7 (by kernel_rfl) rfl) ed_int (tI_at (c := bits i) (k := 0) (by simp [bits]))) (o_mul (cm ba.2 (g 0 (by decide))))) (ed_op (ed_nm 4 (by kernel_rfl) rfl) (ed_ix (ed_nm 7 (by kernel_rfl) rfl) ed_int (tI_at (c := bits i) (k := 1) (by simp [bits]))) (o_mul (cm bb.2 (g 1 (by decide))))) o_add) ?_)
      have et : ((List.range (i + 1)).map bits).filter (lateT wa wb) = ((List.range i).map bits).filter (lateT wa wb) ++ (if lateT wa wb (bits i) = true then [bits i] else []) := by
        rw [List.range_succ, List.map_append, List.filter_append]
        show _ ++ [bits i].filter _ = _
        rw [List.filter_cons, List.filter_nil]
      refine x_one (xd_if (b := lateT wa wb (bits i)) (etd_cmp (ed_nm 8 (by kernel_rfl) rfl) (ed_op (ed_op (ed_nm 4 (by kernel_rfl) rfl) (ed_ix (ed_nm 7 (by kernel_rfl) rfl) ed_int (tI_at (c := bits i) (k := 2) (by simp [bits]))) (o_mul (cm bb.2 (g 2 (by decide))))) (ed_op (ed_nm 3 (by kernel_rfl) rfl) (ed_ix (ed_nm 7 (by kernel_rfl) rfl) ed_int (tI_at (c := bits i) (k := 3) (by simp [bits]))) (o_mul (cm ba.2 (g 3 (by decide))))) o_add) o_gt) (fun h => x_one (x_app 5 (by kernel_rfl) rfl ?_ (Ed.ev (ed_nm 7 (by kernel_rfl) rfl) ⟨rfl, .dat (.int (i : Nat)), .dat (tI (bits i)), .dat (.int (wa * (bits i).getD 0 0 + wb * (bits i).getD 1 0)), ?_⟩))) fun h => x_nil ⟨rfl, .dat (.int (i : Nat)), .dat (tI (bits i)), .dat (.int (wa * (bits i).getD 0 0 + wb * (bits i).getD 1 0)), ?_⟩)
      · rw [List.length_map]
        refine Nat.le_trans (List.length_filter_le _ _) ?_
        rw [List.length_map, List.length_range]
        omega
      · rw [et, if_pos h, List.map_append]
        rfl
      · rw [et, if_neg (by rw [h]; decide), List.append_nil]
        rfl
    · subst e1 e2
      refine x_freeze (i := 5) rfl (x_one (x_ret (Ed.ev (ed_nm 5 (by kernel_rfl) rfl) ?_)))
      rw [rgD_len, show (16 : Int).toNat = 16 from rfl, bits_flags]
  | @sum es a b la lb ha hb =>
    have oa := ho.2 la (List.mem_of_getElem? ha)
    have ob := ho.2 lb (List.mem_of_getElem? hb)
    have ka := oa.2.1
    have kb := ob.2.1
    have nb : 0 < lb.length := List.length_pos_iff.mpr ob.1
    have hmul : la.length * lb.length ≤ 400 := Nat.mul_le_mul ka kb
    refine x_cons (x_pack nd [3, 4] (.cons (by kernel_rfl) (.cons (by kernel_rfl) .nil)) (by simp [startE]) (by decide) (era_dat (Ed.ev (ed_ix (ed_ix (ed_nm 0 (by kernel_rfl) rfl) ed_int (.tup rfl)) (ed_nm 1 (by kernel_rfl) rfl) (ixt_nat (get_map ha))) (era_dat (Ed.ev (ed_ix (ed_ix (ed_nm 0 (by kernel_rfl) rfl) ed_int (.tup rfl)) (ed_nm 2 (by kernel_rfl) rfl) (ixt_nat (get_map hb))) (era_nil ⟨rfl, ?_⟩))))) (by kernel_rfl))
    refine x_cons (xd_if (etd_cmp (ed_way (m := .sum es) (ed_nm 0 (by kernel_rfl) rfl)) ed_str o_eqS) (fun h => absurd (show decide (("sum" : Str) = "late") = true from h) (by decide)) fun h => x_nil ?_)
    refine x_cons (xd_if (etd_cmp (ed_way (m := .sum es) (ed_nm 0 (by kernel_rfl) rfl)) ed_str o_eqS) (fun h => ?_) fun h => absurd (show decide (("sum" : Str) = "sum") = false from h) (by decide))
    have lb64 : Bd 6 (lb.length : Int) := by show (lb.length : Int).natAbs < 2 ^ 6; omega
    have la64 : Bd 6 (la.length : Int) := by show (la.length : Int).natAbs < 2 ^ 6; omega
    have em : ((la.map pI).length : Int) * ((lb.map pI).length : Int) = ((la.length * lb.length : Nat) : Int) := by rw [List.length_map, List.length_map]; exact (Int.natCast_mul _ _).symm
    refine x_one (x_ret (Ed.ev (EdN.ed (edn_lcm nd [("_law_k", 6)] (by kernel_rfl) (ys := List.range (la.length * lb.length)) (enc := fun i => Dat.int (i : Nat)) (f := fun k => tI [((k / lb.length : Nat) : Int), ((k % lb.length : Nat) : Int)]) ((edi_rng1 (by kernel_rfl) (H.free 73) (ed_op (ed_len (xs := la.map pI) (by kernel_rfl) (H.free 69) (ed_nm 3 (by kernel_rfl) rfl) (by exact rfl)) (ed_len (xs := lb.map pI) (by kernel_rfl) (H.free 69) (ed_nm 4 (by kernel_rfl) rfl) (by exact rfl)) (o_mul ?_)) ?_ ?_).is ?_) ?_ (fun y hy => ⟨_, _, (by simp), (gd_nm nd 6 (by kernel_rfl)), Ed.is (ed_tup (eda_cons (ed_op (ed_nm 6 (by kernel_rfl) rfl) (ed_len (xs := lb.map pI) (by kernel_rfl) (H.free 69) (ed_nm 4 (by kernel_rfl) rfl) (by exact rfl)) (o_fdiv ?_)) (eda_cons (ed_op (ed_int1 (by kernel_rfl) (H.free 67) (ed_nm 6 (by kernel_rfl) rfl)) (ed_len (xs := lb.map pI) (by kernel_rfl) (H.free 69) (ed_nm 4 (by kernel_rfl) rfl) (by exact rfl)) (o_mod ?_)) eda_nil)) (by simp)) ?_⟩))) ?_))
    · rw [List.length_map, List.length_map]; exact cm la64 lb64
    · rw [em]; omega
    · rw [em]; omega
    · rw [em, Int.toNat_natCast]; exact rgD_range _
    · rw [List.length_range]; omega
    · rw [List.length_map]; exact wide_div (b := 6) (by omega) lb64 (by decide) (by decide)
    · rw [List.length_map]; omega
    · rw [List.length_map, ← Int.natCast_ediv, ← Int.natCast_emod]; rfl
    · rw [← pairs_flat, List.map_map]; rfl
  | @max es a b la lb ha hb =>
    have ka := (ho.2 la (List.mem_of_getElem? ha)).2.1
    have kb := (ho.2 lb (List.mem_of_getElem? hb)).2.1
    refine x_cons (x_pack nd [3, 4] (.cons (by kernel_rfl) (.cons (by kernel_rfl) .nil)) (by simp [startE]) (by decide) (era_dat (Ed.ev (ed_ix (ed_ix (ed_nm 0 (by kernel_rfl) rfl) ed_int (.tup rfl)) (ed_nm 1 (by kernel_rfl) rfl) (ixt_nat (get_map ha))) (era_dat (Ed.ev (ed_ix (ed_ix (ed_nm 0 (by kernel_rfl) rfl) ed_int (.tup rfl)) (ed_nm 2 (by kernel_rfl) rfl) (ixt_nat (get_map hb))) (era_nil ⟨rfl, ?_⟩))))) (by kernel_rfl))
    refine x_cons (xd_if (etd_cmp (ed_way (m := .max es) (ed_nm 0 (by kernel_rfl) rfl)) ed_str o_eqS) (fun h => absurd (show decide (("max" : Str) = "late") = true from h) (by decide)) fun h => x_nil ?_)
    refine x_cons (xd_if (etd_cmp (ed_way (m := .max es) (ed_nm 0 (by kernel_rfl) rfl)) ed_str o_eqS) (fun h => absurd (show decide (("max" : Str) = "sum") = true from h) (by decide)) fun h => x_nil ?_)
    refine x_one (x_ret (Ed.ev (EdN.ed (edn_op (EdN.ed (edn_lcm nd [("_law_i", 9)] (by kernel_rfl) (ys := List.range la.length) (enc := fun i => Dat.int (i : Nat)) ((edi_rng1 (by kernel_rfl) (H.free 73) (ed_len (xs := la.map pI) (by kernel_rfl) (H.free 69) (ed_nm 3 (by kernel_rfl) rfl) (by exact rfl)) ?_ ?_).is ?_) (by rw [List.length_range]; omega) (fun y hy => ⟨_, _, (by simp), (gd_nm nd 9 (by kernel_rfl)), (ed_tup (eda_cons ed_int (eda_cons (ed_nm 9 (by kernel_rfl) rfl) eda_nil)) (by simp))⟩))) (EdN.ed (edn_lcm nd [("_law_j", 10)] (by kernel_rfl) (ys := List.range lb.length) (enc := fun i => Dat.int (i : Nat)) ((edi_rng1 (by kernel_rfl) (H.free 73) (ed_len (xs := lb.map pI) (by kernel_rfl) (H.free 69) (ed_nm 4 (by kernel_rfl) rfl) (by exact rfl)) ?_ ?_).is ?_) (by rw [List.length_range]; omega) (fun y hy => ⟨_, _, (by simp), (gd_nm nd 10 (by kernel_rfl)), (ed_tup (eda_cons ed_int (eda_cons (ed_nm 10 (by kernel_rfl) rfl) eda_nil)) (by simp))⟩))) (on_cat ?_))) ?_))
    · rw [List.length_map]; omega
    · rw [List.length_map]; omega
    · rw [List.length_map]; exact rgD_range _
    · rw [List.length_map]; omega
    · rw [List.length_map]; omega
    · rw [List.length_map]; exact rgD_range _
    · simp; omega
    · simp [Function.comp_def, tI]
end Kb
namespace Kb
open PySem PySem.Spec PyProof.Rows L2
theorem Fm.cmP {k : Nat} {a : List Int} (h : Fm k a) (hk : 0 < k := by decide) (l : 1 + k ≤ 1000000 := by decide) : ∀ x ∈ a, CMulW 1 x := fun x hx => Kb.cm (j := 1) (by decide) (h.bd x hx) (by decide) hk l
theorem Fm.cmM {k : Nat} {a : List Int} (h : Fm k a) (hk : 0 < k := by decide) (l : 1 + k ≤ 1000000 := by decide) : ∀ x ∈ a, CMulW (-1) x := fun x hx => Kb.cm (j := 1) (by decide) (h.bd x hx) (by decide) hk l
theorem ex_of_list {α : Type} {l : List α} {i : Nat} {x : α} (h : l[i]? = some x) : x ∈ l := List.mem_of_getElem? h
abbrev N__law_case_rows : List Str := ["_law_measure", "_law_ka", "_law_kb", "_law_case", "_law_places", "_law_s", "_law_p", "_law_d", "_law_q", "_law_e", "_law_first_here", "_law_second", "_law_last", "_law_found", "_law_flag", "_law_end", "_law_due", "_law_terms", "_law_kind", "_law_worst", "_law_whole", "_law_one", "_law_u", "_law_v", "_law_two"]
theorem sc__law_case_rows : FnScope N__law_case_rows ["_law_measure", "_law_ka", "_law_kb", "_law_case", "_law_places"] (defScope s__law_case_rows) := ⟨rfl, rfl, rfl, by decide +kernel, rfl, by decide +kernel, by decide +kernel⟩
def R__law_case_rows (ds : List Dat) (dd : Dat) : Prop := ∃ (m : Ms) (a b : Nat) (c s p d q e : List Int) (r : List Rw), ds = [m.enc, .int (a : Nat), .int (b : Nat), tI c, .lst [tI s, tI p, tI d, tI q, tI e]] ∧ m.Ok ∧ Fm 70 s ∧ Fm 70 p ∧ Fm 70 d ∧ Fm 70 q ∧ Fm 70 e ∧ Rws m a b c s p d q e r ∧ dd = .lst (r.map rowE)
theorem gd_lst {S : Sg} {g : Wd} {ρ ρ1 : En} {es : List Expr} {pos : Pos} {k : Nat} {ds : List Dat} {is : List Nat} (h : Gds S g es ρ ds is ρ1) (hn : ∀ env, (assignEach es env).length = ds.length := by intro _; rfl) (hst : ∀ env, (assignEach es env).findIdx? (·.1) = none := by intro _; rfl) : Gd S g (.Tuple es k pos) ρ (.lst ds) is ρ1 := fun M Hb ad n σ H v E a Q q => by
  obtain ⟨b, vs, rfl, nb, hb, sb⟩ := at_lst a
  exact ⟨gUnl S.K ds.length (wGs S es), fun X c => by rw [← c.K]; exact pg_unl c.calm (wGs_ok c) (hn _) (hst _), b, vs, rfl, SqL.of hb, sb.len, h M Hb ad n σ H vs E sb Q q⟩
def lsD (l : List (List Int)) : Dat := .lst (l.map tI)
structure Tm where
  k : Nat
  l : List (Int × Int)
  e : List Int
  d : List Int
def Tm.enc (t : Tm) : Dat := .tup [.int (t.k : Nat), tI t.e, tI t.d]
def Tm.out (t : Tm) : Dat := lsD (costF t.l t.e t.d)
theorem ok__law_case_rows {G : Gc} (H : Head G) : HasF G "_law_case_rows" 3 5 (PureSp 5 R__law_case_rows) := by
  refine H.pure (st := s__law_case_rows) (ps := ["_law_measure", "_law_ka", "_law_kb", "_law_case", "_law_places"]) 58 50 (by kernel_rfl) (by kernel_rfl) sc__law_case_rows (fun _ _ _ _ _ _ us hl => match us, hl with | [_, _, _, _, _], _ => rfl) fun A hr ds dd hl hR => ?_
  have nd := sc__law_case_rows.nd
  obtain ⟨m, a, b, c, s, p, d, q, e, r, rfl, ho, fs, fp, fd, fq, fe, hw, rfl⟩ := hR
  have f1 := fs.add fp
  have f2 := fs.add fq
  have f3 := f1.add (fq.mono (by decide))
  have l2 : ∀ {k : Nat} {x y : List Int}, Fm k x → Fm k y → x.length = y.length := fun h h' => by rw [h.len, h'.len]
  have l3 : ∀ {k : Nat} {x : List Int}, Fm k x → x.length ≤ 1000 := fun h => by rw [h.len]; decide
  refine x_cons (x_asg (Ed.ev (ed_nm 4 (by kernel_rfl) rfl) ⟨_, (gd_lst (gds_cons (gd_nm nd 5 (by kernel_rfl)) (gds_cons (gd_nm nd 6 (by kernel_rfl)) (gds_cons (gd_nm nd 7 (by kernel_rfl)) (gds_cons (gd_nm nd 8 (by kernel_rfl)) (gds_cons (gd_nm nd 9 (by kernel_rfl)) gds_nil)))))), ?_⟩) (by intro _; rfl) (fun env he => by rw [swapped_of he]; kernel_rfl))
  refine x_cons (x_par2 nd 10 11 ⟨rfl, rfl⟩ ⟨rfl, rfl⟩ (by decide) (by simp [startE]) (by kernel_rfl) (era_dat (Ed.ev (d := tI (vadd s p)) (Ed.is (ed_call (ok__law_plus H) (hr.mono (by decide)) (by kernel_rfl) (eda_cons (ed_nm 5 (by kernel_rfl) rfl) (eda_cons (ed_nm 6 (by kernel_rfl) rfl) (eda_cons ed_int eda_nil))) ⟨_, _, _, rfl, l2 fs fp, l3 fs, fp.cmP, rfl⟩) (by rw [vplus_add])) (era_dat (Ed.ev (d := tI (vadd s q)) (Ed.is (ed_call (ok__law_plus H) (hr.mono (by decide)) (by kernel_rfl) (eda_cons (ed_nm 5 (by kernel_rfl) rfl) (eda_cons (ed_nm 8 (by kernel_rfl) rfl) (eda_cons ed_int eda_nil))) ⟨_, _, _, rfl, l2 fs fq, l3 fs, fq.cmP, rfl⟩) (by rw [vplus_add])) (era_nil ⟨rfl, ?_⟩))))))
  refine x_cons (xd_set nd 12 (by kernel_rfl) (d := tI (vadd (vadd s p) q)) (Ed.is (ed_call (ok__law_plus H) (hr.mono (by decide)) (by kernel_rfl) (eda_cons (ed_nm 10 (by kernel_rfl) rfl) (eda_cons (ed_nm 8 (by kernel_rfl) rfl) (eda_cons ed_int eda_nil))) ⟨_, _, _, rfl, by rw [f1.len, fq.len], l3 f1, fq.cmP, rfl⟩) (by rw [vplus_add])) ?_)
  refine x_cons (xd_if (etd_cmp (ed_way (m := m) (ed_nm 0 (by kernel_rfl) rfl)) ed_str o_eqS) (fun h => ?_) fun h => x_nil ?_)
  · cases hw with
    | sum => exact absurd (show decide (("sum" : Str) = "late") = true from h) (by decide)
    | max => exact absurd (show decide (("max" : Str) = "late") = true from h) (by decide)
    | @late ws a b c s p d q e hc =>
      have hes : ∀ x ∈ [vadd s p, vadd (vadd s p) q, vadd s q, vadd (vadd s p) q], Fm 90 x := fun x hx => by
        simp only [List.mem_cons, List.not_mem_nil, or_false] at hx
        rcases hx with rfl | rfl | rfl | rfl
        · exact f1.mono (by decide)
        · exact f3.mono (by decide)
        · exact f2.mono (by decide)
        · exact f3.mono (by decide)
      have hus : ∀ x ∈ [d, e, e, d], Fm 90 x := fun x hx => by
        simp only [List.mem_cons, List.not_mem_nil, or_false] at hx
        rcases hx with rfl | rfl | rfl | rfl
        · exact fd.mono (by decide)
        · exact fe.mono (by decide)
        · exact fe.mono (by decide)
        · exact fd.mono (by decide)
      refine x_cons (xd_setN nd 13 (by kernel_rfl) (by simp [startE, setR]) (edn_lst eda_nil) ?_)
      refine x_cons (x_for (EdI.ev ((edi_zip3 (xs := c.map .int) (ys := [vadd s p, vadd (vadd s p) q, vadd s q, vadd (vadd s p) q].map tI) (ws := [d, e, e, d].map tI) (by kernel_rfl) (H.free 79) (ed_nm 3 (by kernel_rfl) rfl) (EdN.ed (edn_lst (eda_cons (ed_nm 10 (by kernel_rfl) rfl) (eda_cons (ed_nm 12 (by kernel_rfl) rfl) (eda_cons (ed_nm 11 (by kernel_rfl) rfl) (eda_cons (ed_nm 12 (by kernel_rfl) rfl) eda_nil)))) (by simp))) (EdN.ed (edn_lst (eda_cons (ed_nm 7 (by kernel_rfl) rfl) (eda_cons (ed_nm 9 (by kernel_rfl) rfl) (eda_cons (ed_nm 9 (by kernel_rfl) rfl) (eda_cons (ed_nm 7 (by kernel_rfl) rfl) eda_nil)))) (by simp))) (by exact rfl) (by exact rfl) (by exact rfl) (by simpa using hc) (by simpa using hc)).is (zp3_forms c _ _)) ⟨fun i n ρ => n = 0 ∧ ∃ x y z, ρ = [.dat (Ms.late ws).enc, .dat (.int (a : Nat)), .dat (.int (b : Nat)), .dat (tI c), .dat (.lst [tI s, tI p, tI d, tI q, tI e]), .dat (tI s), .dat (tI p), .dat (tI d), .dat (tI q), .dat (tI e), .dat (tI (vadd s p)), .dat (tI (vadd s q)), .dat (tI (vadd (vadd s p) q)), .own (((lateRowsF c [vadd s p, vadd (vadd s p) q, vadd s q, vadd (vadd s p) q] [d, e, e, d]).take i).map rowE), x, y, z, .no, .no, .no, .no, .no, .no, .no, .no], ⟨rfl, .no, .no, .no, by simp [startE, setR, Rs.sl]⟩, fun i x n2 ρ2 hx ⟨e1, x1, y1, z1, e2⟩ => ?_, fun n2 ρ2 ⟨e1, x1, y1, z1, e2⟩ => ?_⟩))
      · subst e1 e2
        rw [List.getElem?_map] at hx
        cases hq : (c.zip ([vadd s p, vadd (vadd s p) q, vadd s q, vadd (vadd s p) q].zip [d, e, e, d]))[i]? with
        | none => rw [hq] at hx; cases hx
        | some w =>
          rw [hq] at hx
          cases hx
          have hqm := List.mem_of_getElem? hq
          obtain ⟨x, y, z⟩ := w
          have hy := (List.of_mem_zip (List.of_mem_zip hqm).2)
          have fy := hes _ hy.1
          have fz := hus _ hy.2
          have hi : i < (c.zip ([vadd s p, vadd (vadd s p) q, vadd s q, vadd (vadd s p) q].zip [d, e, e, d])).length := (List.getElem?_eq_some_iff.mp hq).1
          rw [List.length_zip, List.length_zip] at hi
          have et : (lateRowsF c [vadd s p, vadd (vadd s p) q, vadd s q, vadd (vadd s p) q] [d, e, e, d]).take (i + 1) = (lateRowsF c [vadd s p, vadd (vadd s p) q, vadd s q, vadd (vadd s p) q] [d, e, e, d]).take i ++ [if x = 1 then (vless y z, true) else (vless z y, false)] := by
            rw [List.take_add_one]
            unfold lateRowsF
            rw [List.getElem?_map, hq]
            rfl
          refine ⟨_, _, (gd_tup (gds_cons (gd_nm nd 14 (by kernel_rfl)) (gds_cons (gd_nm nd 15 (by kernel_rfl)) (gds_cons (gd_nm nd 16 (by kernel_rfl)) gds_nil)))), x_one (x_app 13 (by kernel_rfl) rfl ?_ (Ed.ev (d := rowE (if x = 1 then (vless y z, true) else (vless z y, false))) (ed_if (etd_cmp (ed_nm 14 (by kernel_rfl) rfl) ed_int o_eq) (fun h => Ed.is (ed_tup (eda_cons (ed_call (ok__law_plus H) (hr.mono (by decide)) (by kernel_rfl) (eda_cons (ed_nm 15 (by kernel_rfl) rfl) (eda_cons (ed_nm 16 (by kernel_rfl) rfl) (eda_cons (ed_neg ed_int) eda_nil))) ⟨y, z, -1, rfl, l2 fy fz, l3 fy, fz.cmM, rfl⟩) (eda_cons ed_bl eda_nil)) (by simp)) ?_) (fun h => Ed.is (ed_tup (eda_cons (ed_call (ok__law_plus H) (hr.mono (by decide)) (by kernel_rfl) (eda_cons (ed_nm 16 (by kernel_rfl) rfl) (eda_cons (ed_nm 15 (by kernel_rfl) rfl) (eda_cons (ed_neg ed_int) eda_nil))) ⟨z, y, -1, rfl, l2 fz fy, l3 fz, fy.cmM, rfl⟩) (eda_cons ed_bl eda_nil)) (by simp)) ?_)) ⟨rfl, .dat (.int x), .dat (tI y), .dat (tI z), ?_⟩))⟩
          · rw [List.length_map, List.length_take]; omega
          · rw [if_pos (by simpa using h), vplus_less]; rfl
          · rw [if_neg (by simpa using h), vplus_less]; rfl
          · rw [et, List.map_append]
            rfl
      · subst e1 e2
        refine x_freeze (i := 13) rfl (x_one (x_ret (Ed.ev (ed_nm 13 (by kernel_rfl) rfl) ?_)))
        rw [List.take_of_length_le]
        rw [List.length_map]
        unfold lateRowsF
        rw [List.length_map]
        exact Nat.le_refl _
  have main : ∀ (la lb : List (Int × Int)), Ent m a la → Ent m b lb → Ex (G.sg A N__law_case_rows (defScope s__law_case_rows)) wd0 ((defBody s__law_case_rows).drop 4) [.dat m.enc, .dat (.int (a : Nat)), .dat (.int (b : Nat)), .dat (tI c), .dat (.lst [tI s, tI p, tI d, tI q, tI e]), .dat (tI s), .dat (tI p), .dat (tI d), .dat (tI q), .dat (tI e), .dat (tI (vadd s p)), .dat (tI (vadd s q)), .dat (tI (vadd (vadd s p) q)), .no, .no, .no, .no, .no, .no, .no, .no, .no, .no, .no, .no] 0 { nx := fun _ _ => Dat.lst (r.map rowE) = .non, rt := fun _ d' => d' = Dat.lst (r.map rowE) } := by
    intro la lb ha hb
    have oa := ha.ok ho
    have ob := hb.ok ho
    have c1 := costF_fm oa (f1.mono (by decide : 71 ≤ 80)) (fd.mono (by decide : 70 ≤ 80))
    have c2 := costF_fm ob (f3.mono (by decide : 72 ≤ 80)) (fe.mono (by decide : 70 ≤ 80))
    have c3 := costF_fm ob (f2.mono (by decide : 71 ≤ 80)) (fe.mono (by decide : 70 ≤ 80))
    have c4 := costF_fm oa (f3.mono (by decide : 72 ≤ 80)) (fd.mono (by decide : 70 ≤ 80))
    have n3 : (costF lb (vadd s q) e).length ≤ 20 := by unfold costF; rw [List.length_map]; exact ob.2.1
    have n4 : (costF la (vadd (vadd s p) q) d).length ≤ 20 := by unfold costF; rw [List.length_map]; exact oa.2.1
    let ts : List Tm := [⟨a, la, vadd s p, d⟩, ⟨b, lb, vadd (vadd s p) q, e⟩, ⟨b, lb, vadd s q, e⟩, ⟨a, la, vadd (vadd s p) q, d⟩]
    have hts : ∀ t ∈ ts, Ent m t.k t.l ∧ okT t.l ∧ Fm 80 t.e ∧ Fm 80 t.d := fun t ht => by
      simp only [ts, List.mem_cons, List.not_mem_nil, or_false] at ht
      rcases ht with rfl | rfl | rfl | rfl
      · exact ⟨ha, oa, f1.mono (by decide), fd.mono (by decide)⟩
      · exact ⟨hb, ob, f3.mono (by decide), fe.mono (by decide)⟩
      · exact ⟨hb, ob, f2.mono (by decide), fe.mono (by decide)⟩
      · exact ⟨ha, oa, f3.mono (by decide), fd.mono (by decide)⟩
    refine x_cons (xd_setN nd 17 (by kernel_rfl) (by simp) (edn_lst eda_nil) ?_)
    refine x_consI (fun n ρ => n = 0 ∧ ∃ x y z w u v, ρ = [.dat m.enc, .dat (.int (a : Nat)), .dat (.int (b : Nat)), .dat (tI c), .dat (.lst [tI s, tI p, tI d, tI q, tI e]), .dat (tI s), .dat (tI p), .dat (tI d), .dat (tI q), .dat (tI e), .dat (tI (vadd s p)), .dat (tI (vadd s q)), .dat (tI (vadd (vadd s p) q)), .no, x, y, z, .own (ts.map Tm.out), w, .no, .no, .no, u, v, .no]) (x_for (EdI.ev ((edi_lst (EdN.ed (edn_lst (eda_cons (ed_tup (eda_cons (ed_nm 1 (by kernel_rfl) rfl) (eda_cons (ed_nm 10 (by kernel_rfl) rfl) (eda_cons (ed_nm 7 (by kernel_rfl) rfl) eda_nil))) (by simp)) (eda_cons (ed_tup (eda_cons (ed_nm 2 (by kernel_rfl) rfl) (eda_cons (ed_nm 12 (by kernel_rfl) rfl) (eda_cons (ed_nm 9 (by kernel_rfl) rfl) eda_nil))) (by simp)) (eda_cons (ed_tup (eda_cons (ed_nm 2 (by kernel_rfl) rfl) (eda_cons (ed_nm 11 (by kernel_rfl) rfl) (eda_cons (ed_nm 9 (by kernel_rfl) rfl) eda_nil))) (by simp)) (eda_cons (ed_tup (eda_cons (ed_nm 1 (by kernel_rfl) rfl) (eda_cons (ed_nm 12 (by kernel_rfl) rfl) (eda_cons (ed_nm 7 (by kernel_rfl) rfl) eda_nil))) (by simp)) eda_nil)))) (by simp)))).is (show _ = ts.map Tm.enc from rfl)) ⟨fun i n ρ => n = 0 ∧ ∃ x y z w u v, ρ = [.dat m.enc, .dat (.int (a : Nat)), .dat (.int (b : Nat)), .dat (tI c), .dat (.lst [tI s, tI p, tI d, tI q, tI e]), .dat (tI s), .dat (tI p), .dat (tI d), .dat (tI q), .dat (tI e), .dat (tI (vadd s p)), .dat (tI (vadd s q)), .dat (tI (vadd (vadd s p) q)), .no, x, y, z, .own ((ts.take i).map Tm.out), w, .no, .no, .no, u, v, .no], ⟨rfl, .no, .no, .no, .no, .no, .no, rfl⟩, fun i x n2 ρ2 hx ⟨e1, x1, y1, z1, w1, u1, v1, e2⟩ => ?_, fun n2 ρ2 ⟨e1, x1, y1, z1, w1, u1, v1, e2⟩ => ?_⟩)) fun n2 ρ2 ⟨e1, x1, y1, z1, w1, u1, v1, e2⟩ => ?_
    · subst e1 e2
      rw [List.getElem?_map] at hx
      cases hq : ts[i]? with
      | none => rw [hq] at hx; cases hx
      | some t =>
        rw [hq] at hx
        cases hx
        obtain ⟨te, tk, fe', fd'⟩ := hts t (List.mem_of_getElem? hq)
        have hi : i < 4 := (List.getElem?_eq_some_iff.mp hq).1
        refine ⟨_, _, (gd_tup (gds_cons (gd_nm nd 18 (by kernel_rfl)) (gds_cons (gd_nm nd 15 (by kernel_rfl)) (gds_cons (gd_nm nd 16 (by kernel_rfl)) gds_nil)))), x_one (x_app 17 (by kernel_rfl) rfl ?_ (Ed.ev (d := t.out) (EdN.ed (EdN.is (edn_lcm nd [("_law_u", 22), ("_law_v", 23)] (by kernel_rfl) (ys := t.l) (enc := pI) (f := fun p => tI (vadd (vsc p.1 t.e) (vsc p.2 t.d))) (edi_tup (ed_entry te (ed_nm 0 (by kernel_rfl) rfl) (ed_nm 18 (by kernel_rfl) rfl))) (by have := tk.2.1; omega) (fun y hy => ⟨_, _, (by simp), (gd_tup (gds_cons (gd_nm nd 22 (by kernel_rfl)) (gds_cons (gd_nm nd 23 (by kernel_rfl)) gds_nil))), Ed.is (ed_call (ok__law_plus H) (hr.mono (by decide)) (by kernel_rfl) (eda_cons (ed_call (ok__law_scaled H) (hr.mono (by decide)) (by kernel_rfl) (eda_cons (ed_nm 15 (by kernel_rfl) rfl) (eda_cons (ed_nm 22 (by kernel_rfl) rfl) eda_nil)) ⟨_, _, rfl, ?_, ?_, rfl⟩) (eda_cons (ed_nm 16 (by kernel_rfl) rfl) (eda_cons (ed_nm 23 (by kernel_rfl) rfl) eda_nil))) ⟨_, _, _, rfl, ?_, ?_, ?_, rfl⟩) ?_⟩)) ?_)) ⟨rfl, x1, .dat (tI t.e), .dat (tI t.d), .dat (.int (t.k : Nat)), u1, v1, ?_⟩))⟩
        · rw [List.length_map, List.length_take]; omega
        · exact l3 fe'
        · exact fe'.cm (tk.2.2 y hy).1
        · rw [vsc_len, fe'.len, fd'.len]
        · rw [vsc_len]; exact l3 fe'
        · exact fd'.cm (tk.2.2 y hy).2
        · rw [vplus_sc]
        · simp [costF]
        · rw [List.take_add_one, hq, Option.toList_some, List.map_append]
          rfl
    · subst e1 e2
      exact ⟨rfl, _, _, _, _, _, _, rfl⟩
    subst e1 e2
    refine x_freeze (i := 17) rfl ?_
    have i0 : ∀ (k : Nat) (l : List (List Int)) (y : List Int), (ts.map Tm.out)[k]? = some (lsD l) → Ix (Dat.lst (ts.map Tm.out)) (k : Int) (lsD l) := fun k l y h => ixl_nat h
    refine x_cons (xd_if (etd_cmp (ed_way (m := m) (ed_nm 0 (by kernel_rfl) rfl)) ed_str o_eqS) (fun h => ?_) fun h => x_nil ?_)
    · cases hw with
      | late hc => cases ha
      | sum => exact absurd (show decide (("sum" : Str) = "max") = true from h) (by decide)
      | @max es a b i j s p d q e x la' lb' ea eb ex =>
        cases ha with
        | max ea' =>
        cases hb with
        | max eb' =>
        rw [ea] at ea'
        cases ea'
        rw [eb] at eb'
        cases eb'
        have fx : Fm 145 x := by
          rcases ex with ⟨_, ex⟩ | ⟨_, ex⟩
          · exact c1 x (List.mem_of_getElem? ex)
          · exact c2 x (List.mem_of_getElem? ex)
        refine x_cons (xd_set nd 19 (by kernel_rfl) (d := tI x) (ed_if (etd_cmp (ed_ix (ed_nm 3 (by kernel_rfl) rfl) ed_int (.tup rfl)) ed_int o_eq) (fun h => ?_) (fun h => ?_)) ?_)
        · rcases ex with ⟨_, ex⟩ | ⟨e1, ex⟩
          · exact ed_ix (ed_ix (ed_nm 17 (by kernel_rfl) rfl) ed_int (ixl_nat (k := 0) rfl)) (ed_ix (ed_nm 3 (by kernel_rfl) rfl) ed_int (.tup rfl)) (ixl_nat (get_map ex))
          · subst e1
            exact absurd h (by decide)
        · rcases ex with ⟨e1, ex⟩ | ⟨e1, ex⟩
          · subst e1
            exact absurd h (by decide)
          · exact ed_ix (ed_ix (ed_nm 17 (by kernel_rfl) rfl) ed_int (ixl_nat (k := 1) rfl)) (ed_ix (ed_nm 3 (by kernel_rfl) rfl) ed_int (.tup rfl)) (ixl_nat (get_map ex))
        have c5 : ∀ y ∈ costF lb (vadd s q) e ++ costF la (vadd (vadd s p) q) d, Fm 145 y := fun y hy => (List.mem_append.mp hy).elim (c3 y) (c4 y)
        refine x_one (x_ret (Ed.ev (EdN.ed (edn_lcm nd [("_law_one", 21)] (by kernel_rfl) (ys := costF lb (vadd s q) e ++ costF la (vadd (vadd s p) q) d) (enc := tI) (f := fun one => rowE (vless x one, true)) (EdI.is (edi_lst (EdN.ed (edn_op (ed_ix (ed_nm 17 (by kernel_rfl) rfl) ed_int (ixl_nat (k := 2) rfl)) (ed_ix (ed_nm 17 (by kernel_rfl) rfl) ed_int (ixl_nat (k := 3) rfl)) (on_cat ?_)))) ?_) ?_ (fun y hy => ⟨_, _, (by simp), (gd_nm nd 21 (by kernel_rfl)), Ed.is (ed_tup (eda_cons (ed_call (ok__law_plus H) (hr.mono (by decide)) (by kernel_rfl) (eda_cons (ed_nm 19 (by kernel_rfl) rfl) (eda_cons (ed_nm 21 (by kernel_rfl) rfl) (eda_cons (ed_neg ed_int) eda_nil))) ⟨x, y, -1, rfl, l2 fx (c5 y hy), l3 fx, (c5 y hy).cmM, rfl⟩) (eda_cons ed_bl eda_nil)) (by simp)) ?_⟩))) ?_))
        · rw [List.length_map, List.length_map]; show (costF lb (vadd s q) e).length + (costF la (vadd (vadd s p) q) d).length ≤ 1000; omega
        · rw [List.map_append]
        · rw [List.length_append]; omega
        · rw [vplus_less]; rfl
        · simp [Function.comp_def]
    · cases hw with
      | late hc => cases ha
      | max => exact absurd (show decide (("max" : Str) = "max") = false from h) (by decide)
      | @sum es a b i j s p d q e x y la' lb' ea eb ex ey =>
        cases ha with
        | sum ea' =>
        cases hb with
        | sum eb' =>
        rw [ea] at ea'
        cases ea'
        rw [eb] at eb'
        cases eb'
        have fx := c1 x (List.mem_of_getElem? ex)
        have fy := c2 y (List.mem_of_getElem? ey)
        have fw := fx.add fy
        refine x_cons (x_pack nd [20, 13] (.cons (by kernel_rfl) (.cons (by kernel_rfl) .nil)) (by simp) (by decide) (era_dat (Ed.ev (d := tI (vadd x y)) (Ed.is (ed_call (ok__law_plus H) (hr.mono (by decide)) (by kernel_rfl) (eda_cons (ed_ix (ed_ix (ed_nm 17 (by kernel_rfl) rfl) ed_int (ixl_nat (k := 0) rfl)) (ed_ix (ed_nm 3 (by kernel_rfl) rfl) ed_int (.tup rfl)) (ixl_nat (get_map ex))) (eda_cons (ed_ix (ed_ix (ed_nm 17 (by kernel_rfl) rfl) ed_int (ixl_nat (k := 1) rfl)) (ed_ix (ed_nm 3 (by kernel_rfl) rfl) ed_int (.tup rfl)) (ixl_nat (get_map ey))) (eda_cons ed_int eda_nil))) ⟨_, _, _, rfl, l2 fx fy, l3 fx, fy.cmP, rfl⟩) (by rw [vplus_add])) (era_new (EdN.ev (edn_lst eda_nil) (era_nil ⟨rfl, ?_⟩))))) (by kernel_rfl))
        refine x_cons (x_for (EdI.ev (edi_lst (ed_ix (ed_nm 17 (by kernel_rfl) rfl) ed_int (ixl_nat (k := 2) rfl))) ⟨fun k n ρ => n = 0 ∧ ∃ o0, ρ = [.dat (Ms.sum es).enc, .dat (.int (a : Nat)), .dat (.int (b : Nat)), .dat (tI [(i : Int), (j : Int)]), .dat (.lst [tI s, tI p, tI d, tI q, tI e]), .dat (tI s), .dat (tI p), .dat (tI d), .dat (tI q), .dat (tI e), .dat (tI (vadd s p)), .dat (tI (vadd s q)), .dat (tI (vadd (vadd s p) q)), .own (((costF lb (vadd s q) e).take k).flatMap fun one => (costF la (vadd (vadd s p) q) d).map fun two => rowE (vless (vadd x y) (vadd one two), true)), x1, y1, z1, .dat (.lst (ts.map Tm.out)), w1, .no, .dat (tI (vadd x y)), o0, u1, v1, .no], ⟨rfl, .no, rfl⟩, fun k z n2 ρ2 hz ⟨e1, o0, e2⟩ => ?_, fun n2 ρ2 ⟨e1, o0, e2⟩ => ?_⟩))
        · subst e1 e2
          rw [List.getElem?_map] at hz
          cases hq : (costF lb (vadd s q) e)[k]? with
          | none => rw [hq] at hz; cases hz
          | some one =>
            rw [hq] at hz
            cases hz
            have f5 := c3 one (List.mem_of_getElem? hq)
            have hk : k < (costF lb (vadd s q) e).length := (List.getElem?_eq_some_iff.mp hq).1
            have f6 := (fw.less (f5.mono (by decide : 145 ≤ 146)))
            refine ⟨_, _, gd_nm nd 21 (by kernel_rfl), x_freeze (i := 13) rfl (x_one (xd_setN nd 13 (by kernel_rfl) (by simp) (edn_op (ed_nm 13 (by kernel_rfl) rfl) (EdN.ed (edn_lcm nd [("_law_two", 24)] (by kernel_rfl) (ys := costF la (vadd (vadd s p) q) d) (enc := tI) (f := fun two => rowE (vless (vadd x y) (vadd one two), true)) (edi_lst (ed_ix (ed_nm 17 (by kernel_rfl) rfl) ed_int (ixl_nat (k := 3) rfl))) (by omega) (fun w hw => ⟨_, _, (by simp), (gd_nm nd 24 (by kernel_rfl)), Ed.is (ed_tup (eda_cons (ed_call (ok__law_plus H) (hr.mono (by decide)) (by kernel_rfl) (eda_cons (ed_call (ok__law_plus H) (hr.mono (by decide)) (by kernel_rfl) (eda_cons (ed_nm 20 (by kernel_rfl) rfl) (eda_cons (ed_nm 21 (by kernel_rfl) rfl) (eda_cons (ed_neg ed_int) eda_nil))) ⟨vadd x y, one, -1, rfl, l2 fw (f5.mono (by decide)), l3 fw, f5.cmM, rfl⟩) (eda_cons (ed_nm 24 (by kernel_rfl) rfl) (eda_cons (ed_neg ed_int) eda_nil))) ⟨_, _, -1, rfl, by rw [vplus_less, f6.len, (c4 w hw).len], by rw [vplus_less, f6.len]; decide, (c4 w hw).cmM, rfl⟩) (eda_cons ed_bl eda_nil)) (by simp)) ?_⟩))) (on_cat ?_)) ⟨rfl, .dat (tI one), ?_⟩))⟩
            · rw [vplus_less, vplus_less, vless_less _ _ _ fw.len f5.len (c4 w hw).len]; rfl
            · rw [List.length_map]
              have := fm_len (l := (costF lb (vadd s q) e).take k) (k := 20) (f := fun one => (costF la (vadd (vadd s p) q) d).map fun two => rowE (vless (vadd x y) (vadd one two), true)) fun y _ => by rw [List.length_map]; exact n4
              rw [List.length_take] at this
              omega
            · rw [List.take_add_one, hq, Option.toList_some, List.flatMap_append, List.flatMap_singleton]
              rfl
        · subst e1 e2
          refine x_freeze (i := 13) rfl (x_one (x_ret (Ed.ev (ed_nm 13 (by kernel_rfl) rfl) ?_)))
          rw [List.take_of_length_le (by rw [List.length_map]; exact Nat.le_refl _)]
          simp [List.map_flatMap, Function.comp_def]
  cases hw with
  | late hc => exact absurd (show decide (("late" : Str) = "late") = false from h) (by decide)
  | sum ea eb ex ey => exact main _ _ (.sum ea) (.sum eb)
  | max ea eb ex => exact main _ _ (.max ea) (.max eb)
end Kb
namespace Kb
open PySem PySem.Spec PyProof.Rows L2
def llHi (f n : Int) (high : Option Int) : Option Int := if 0 < f then high else if f < 0 then some (hiM f n high) else if n < 0 then some (-1) else high
def fin (low : Int) (high : Option Int) : Bool := high.isNone || decide (low ≤ high.getD 0)
def llGo : List Rw → Int → Option Int → Option Int
  | [], low, high => if fin low high then some low else none
  | r :: rs, low, high => llGo rs (loF (r.1.getD 0 0) (r.1.getD 1 0 - b2i r.2) low) (llHi (r.1.getD 0 0) (r.1.getD 1 0 - b2i r.2) high)
theorem loF_le (f n low : Int) : low ≤ loF f n low := by
  unfold loF
  split
  · split <;> omega
  · omega
theorem hiM_le (f n h : Int) : hiM f n (some h) ≤ h := by
  unfold hiM
  dsimp only
  split <;> omega
theorem llGo_neg : ∀ (rs : List Rw) (low h : Int), 0 ≤ low → h < 0 → llGo rs low (some h) = none
  | [], low, h, h0, h1 => by
    unfold llGo fin
    rw [if_neg (by simp; omega)]
  | r :: rs, low, h, h0, h1 => by
    unfold llGo
    have h2 := loF_le (r.1.getD 0 0) (r.1.getD 1 0 - b2i r.2) low
    unfold llHi
    split
    · exact llGo_neg rs _ _ (by omega) h1
    · split
      · have := hiM_le (r.1.getD 0 0) (r.1.getD 1 0 - b2i r.2) h
        exact llGo_neg rs _ _ (by omega) (by omega)
      · split
        · exact llGo_neg rs _ _ (by omega) (by omega)
        · exact llGo_neg rs _ _ (by omega) h1
theorem ll_ls : ∀ (rs : List Rw) (low : Int) (high : Option Int), 0 ≤ low → llGo rs low high = lsGo rs low high
  | [], low, high, h0 => rfl
  | r :: rs, low, high, h0 => by
    unfold llGo lsGo
    dsimp only
    have h2 := loF_le (r.1.getD 0 0) (r.1.getD 1 0 - b2i r.2) low
    generalize r.1.getD 0 0 = f at *
    generalize r.1.getD 1 0 - b2i r.2 = n at *
    by_cases hz : f = 0 ∧ n < 0
    · rw [if_pos hz]
      have e : llHi f n high = some (-1) := by unfold llHi; rw [if_neg (by omega), if_neg (by omega), if_pos hz.2]
      rw [e]
      exact llGo_neg rs _ _ (by omega) (by decide)
    · rw [if_neg hz]
      have e : llHi f n high = hiF f n high := by
        unfold llHi hiF
        by_cases h1 : 0 < f
        · rw [if_pos h1, if_neg (by omega)]
        · rw [if_neg h1]
          by_cases h3 : f < 0
          · rw [if_pos h3, if_pos h3]
          · rw [if_neg h3, if_neg h3, if_neg (by omega)]
      rw [e]
      exact ll_ls rs _ _ (by omega)
abbrev N__law_first : List Str := ["_law_measure", "_law_a", "_law_b", "_law_found", "_law_case", "_law_places", "_law_low", "_law_high", "_law_row", "_law_is_strict", "_law_number", "_law_last"]
theorem sc__law_first : FnScope N__law_first ["_law_measure", "_law_a", "_law_b"] (defScope s__law_first) := ⟨rfl, rfl, rfl, by decide +kernel, rfl, by decide +kernel, by decide +kernel⟩
def R__law_first (ds : List Dat) (dd : Dat) : Prop := ∃ (m : Ms) (x y : Jb), ds = [m.enc, x.enc, y.enc] ∧ m.Ok ∧ x.Ok m.len ∧ y.Ok m.len ∧ dd = oI (firstF m x y)
theorem ok__law_first {G : Gc} (H : Head G) : HasF G "_law_first" 4 3 (PureSp 3 R__law_first) := by
  refine H.pure (st := s__law_first) (ps := ["_law_measure", "_law_a", "_law_b"]) 63 55 (by kernel_rfl) (by kernel_rfl) sc__law_first (fun _ _ _ _ _ _ us hl => match us, hl with | [_, _, _], _ => rfl) fun A hr ds dd hl hR => ?_
  have nd := sc__law_first.nd
  obtain ⟨m, x, y, rfl, ho, ox, oy, rfl⟩ := hR
  have hcs := csd_of oy.k ox.k
  have hlen := casesF_len ho oy.k ox.k
  have fs : Fm 70 [1, 0] := ⟨rfl, by decide⟩
  let rw_ : List Int → List Rw := fun c => m.rowsF y.k x.k c [1, 0] [0, y.t] [0, y.u] [0, x.t] [0, x.u]
  refine x_cons (xd_setN nd 3 (by kernel_rfl) (by simp [startE]) (edn_lst eda_nil) ?_)
  refine x_cons (x_for (EdI.ev (edi_lst (ed_call (ok__law_cases H) (hr.mono (by decide)) (by kernel_rfl) (eda_cons (ed_nm 0 (by kernel_rfl) rfl) (eda_cons (ed_ix (ed_nm 2 (by kernel_rfl) rfl) ed_int (.tup rfl)) (eda_cons (ed_ix (ed_nm 1 (by kernel_rfl) rfl) ed_int (.tup rfl)) eda_nil))) ⟨m, y.k, x.k, _, rfl, ho, hcs, rfl⟩)) ⟨fun i' n ρ => n = 0 ∧ ∃ s1 s2 s3 s4 s5 s6 s7 s8, ρ = [.dat m.enc, .dat x.enc, .dat y.enc, .own ((((m.casesF y.k x.k).take i').filterMap fun c => lsF (rw_ c)).map .int), s1, s2, s3, s4, s5, s6, s7, s8], ⟨rfl, .no, .no, .no, .no, .no, .no, .no, .no, rfl⟩, fun i' z n2 ρ2 hz ⟨e1, s1, s2, s3, s4, s5, s6, s7, s8, e2⟩ => ?_, fun n2 ρ2 ⟨e1, s1, s2, s3, s4, s5, s6, s7, s8, e2⟩ => ?_⟩))
  · subst e1 e2
    rw [List.getElem?_map] at hz
    cases hq : (m.casesF y.k x.k)[i']? with
    | none => rw [hq] at hz; cases hz
    | some c =>
      rw [hq] at hz
      cases hz
      have hrw := rws_of (s := [1, 0]) (p := [0, y.t]) (d := [0, y.u]) (q := [0, x.t]) (e := [0, x.u]) oy.k ox.k (List.mem_of_getElem? hq)
      have hfm := rws_fm hrw ho fs (fm_one oy.t.2) (fm_one oy.u.2) (fm_one ox.t.2) (fm_one ox.u.2)
      refine ⟨_, _, gd_nm nd 4 (by kernel_rfl), x_cons (xd_set nd 5 (by kernel_rfl) (d := .lst [tI [1, 0], tI [0, y.t], tI [0, y.u], tI [0, x.t], tI [0, x.u]]) (EdN.ed (edn_lst (eda_cons (ed_tup (eda_cons ed_int (eda_cons ed_int eda_nil)) (by simp)) (eda_cons (ed_tup (eda_cons ed_int (eda_cons (ed_ix (ed_nm 2 (by kernel_rfl) rfl) ed_int (.tup rfl)) eda_nil)) (by simp)) (eda_cons (ed_tup (eda_cons ed_int (eda_cons (ed_ix (ed_nm 2 (by kernel_rfl) rfl) ed_int (.tup rfl)) eda_nil)) (by simp)) (eda_cons (ed_tup (eda_cons ed_int (eda_cons (ed_ix (ed_nm 1 (by kernel_rfl) rfl) ed_int (.tup rfl)) eda_nil)) (by simp)) (eda_cons (ed_tup (eda_cons ed_int (eda_cons (ed_ix (ed_nm 1 (by kernel_rfl) rfl) ed_int (.tup rfl)) eda_nil)) (by simp)) eda_nil))))) (by simp))) ?_)⟩
      refine x_cons (x_pack nd [6, 7] (.cons (by kernel_rfl) (.cons (by kernel_rfl) .nil)) (by simp) (by decide) (era_dat (Ed.ev ed_int (era_dat (Ed.ev ed_non (era_nil ⟨rfl, ?_⟩))))) (by kernel_rfl))
      refine x_consI (fun n ρ => n = 0 ∧ ∃ low high s5 s6 s7 s8, (if fin low high then some low else none) = lsF (rw_ c) ∧ ρ = [.dat m.enc, .dat x.enc, .dat y.enc, .own ((((m.casesF y.k x.k).take i').filterMap fun c => lsF (rw_ c)).map .int), .dat (tI c), .dat (.lst [tI [1, 0], tI [0, y.t], tI [0, y.u], tI [0, x.t], tI [0, x.u]]), .dat (.int low), .dat (oI high), s5, s6, s7, s8]) (x_for (EdI.ev (edi_lst (ed_call (ok__law_case_rows H) (hr.mono (by decide)) (by kernel_rfl) (eda_cons (ed_nm 0 (by kernel_rfl) rfl) (eda_cons (ed_ix (ed_nm 2 (by kernel_rfl) rfl) ed_int (.tup rfl)) (eda_cons (ed_ix (ed_nm 1 (by kernel_rfl) rfl) ed_int (.tup rfl)) (eda_cons (ed_nm 4 (by kernel_rfl) rfl) (eda_cons (ed_nm 5 (by kernel_rfl) rfl) eda_nil))))) ⟨m, y.k, x.k, c, [1, 0], [0, y.t], [0, y.u], [0, x.t], [0, x.u], _, rfl, ho, fs, fm_one oy.t.2, fm_one oy.u.2, fm_one ox.t.2, fm_one ox.u.2, hrw, rfl⟩))
        ⟨fun k n ρ => n = 0 ∧ ∃ low high s5 s6 s7 s8, llGo ((rw_ c).drop k) low high = lsF (rw_ c) ∧ ρ = [.dat m.enc, .dat x.enc, .dat y.enc, .own ((((m.casesF y.k x.k).take i').filterMap fun c => lsF (rw_ c)).map .int), .dat (tI c), .dat (.lst [tI [1, 0], tI [0, y.t], tI [0, y.u], tI [0, x.t], tI [0, x.u]]), .dat (.int low), .dat (oI high), s5, s6, s7, s8], ⟨rfl, 0, none, s5, s6, s7, s8, ll_ls _ _ _ (by decide), rfl⟩, fun k z n2 ρ2 hz ⟨e1, low, high, s5, s6, s7, s8, hgo, e2⟩ => ?_, fun n2 ρ2 ⟨e1, low, high, s5, s6, s7, s8, hgo, e2⟩ => ?_⟩)) fun n2 ρ2 ⟨e1, low, high, s5, s6, s7, s8, hgo, e2⟩ => ?_
      · subst e1 e2
        rw [List.getElem?_map] at hz
        cases hq2 : (rw_ c)[k]? with
        | none => rw [show (m.rowsF y.k x.k c [1, 0] [0, y.t] [0, y.u] [0, x.t] [0, x.u])[k]? = (rw_ c)[k]? from rfl, hq2] at hz; cases hz
        | some r =>
          rw [show (m.rowsF y.k x.k c [1, 0] [0, y.t] [0, y.u] [0, x.t] [0, x.u])[k]? = (rw_ c)[k]? from rfl, hq2] at hz
          cases hz
          have fr := hfm r (List.mem_of_getElem? hq2)
          obtain ⟨g0, b0⟩ := fm_at fr 0 (by decide)
          obtain ⟨g1, b1⟩ := fm_at fr 1 (by decide)
          have hi := (List.getElem?_eq_some_iff.mp hq2).1
          have hd : (rw_ c).drop k = r :: (rw_ c).drop (k + 1) := by
            rw [List.drop_eq_getElem_cons hi, (List.getElem?_eq_some_iff.mp hq2).2]
          rw [hd] at hgo
          unfold llGo at hgo
          generalize hf : r.1.getD 0 0 = f at *
          generalize hn : r.1.getD 1 0 - b2i r.2 = nn at *
          have ir0 : Ix (tI r.1) 0 (.int f) := ixt_nat (k := 0) (get_map g0)
          refine ⟨_, _, (gd_tup (gds_cons (gd_nm nd 8 (by kernel_rfl)) (gds_cons (gd_nm nd 9 (by kernel_rfl)) gds_nil))), x_cons (xd_set nd 10 (by kernel_rfl) (ed_op (ed_ix (ed_nm 8 (by kernel_rfl) rfl) ed_int (ixt_nat (k := 1) (get_map g1))) (ed_intB (by kernel_rfl) (H.free 67) (ed_nm 9 (by kernel_rfl) rfl)) o_sub) ?_)⟩
          rw [hn]
          unfold llHi at hgo
          refine x_one (xd_if (etd_cmp (ed_ix (ed_nm 8 (by kernel_rfl) rfl) ed_int ir0) ed_int o_gt) (fun hp => ?_) fun hp => ?_)
          · have hp1 : 0 < f := by simpa using hp
            rw [if_pos hp1] at hgo
            refine x_one (xd_set nd 6 (by kernel_rfl) (d := .int (loF f nn low)) (Ed.is (ed_blt (by kernel_rfl) (H.free 71) PyProof.Rows.boot_max (eda_cons (ed_nm 6 (by kernel_rfl) rfl) (eda_cons (ed_op ed_int (ed_op (ed_nm 10 (by kernel_rfl) rfl) (ed_ix (ed_nm 8 (by kernel_rfl) rfl) ed_int ir0) (o_fdiv ?_)) o_sub) eda_nil)) (fun K k => c_max2 k)) ?_) ⟨rfl, _, _, _, _, _, _, hgo, rfl⟩)
            · exact wide_div (b := 200) hp1 b0 (by decide) (by decide)
            · unfold loF
              rw [if_pos hp1]
          have hp1 : ¬ 0 < f := by simpa using hp
          rw [if_neg hp1] at hgo
          have el : loF f nn low = low := if_neg hp1
          rw [el] at hgo
          refine x_one (xd_if (etd_cmp (ed_ix (ed_nm 8 (by kernel_rfl) rfl) ed_int ir0) ed_int o_lt) (fun hp => ?_) fun hp => ?_)
          · have hf1 : f < 0 := by simpa using hp
            rw [if_pos hf1] at hgo
            refine x_cons (xd_set nd 11 (by kernel_rfl) (ed_op (ed_nm 10 (by kernel_rfl) rfl) (ed_op ed_int (ed_ix (ed_nm 8 (by kernel_rfl) rfl) ed_int ir0) o_sub) (o_fdiv ?_)) ?_)
            · exact wide_div (b := 201) (by omega) (bd_sub (by decide) b0) (by decide) (by decide)
            refine x_one (xd_set nd 7 (by kernel_rfl) (d := .int (hiM f nn high)) (ed_if (etd_cmp (ed_nm 7 (by kernel_rfl) rfl) ed_non o_isN) (fun h => ?_) (fun h => ?_)) ⟨rfl, _, _, _, _, _, _, hgo, rfl⟩)
            · cases high with
              | none => exact ed_nm 11 (by kernel_rfl) rfl
              | some v => cases h
            · cases high with
              | none => cases h
              | some v => exact ed_blt (by kernel_rfl) (H.free 72) PyProof.Rows.boot_min (eda_cons (ed_nm 7 (by kernel_rfl) rfl) (eda_cons (ed_nm 11 (by kernel_rfl) rfl) eda_nil)) (fun K k => c_min2 k)
          have hf1 : ¬ f < 0 := by simpa using hp
          rw [if_neg hf1] at hgo
          refine x_one (xd_if (etd_cmp (ed_nm 10 (by kernel_rfl) rfl) ed_int o_lt) (fun hp => ?_) fun hp => ?_)
          · have hn1 : nn < 0 := by simpa using hp
            rw [if_pos hn1] at hgo
            exact x_one (xd_set nd 7 (by kernel_rfl) (d := oI (some (-1))) (ed_neg ed_int) ⟨rfl, _, _, _, _, _, _, hgo, rfl⟩)
          · have hn1 : ¬ nn < 0 := by simpa using hp
            rw [if_neg hn1] at hgo
            exact x_nil ⟨rfl, _, _, _, _, _, _, hgo, rfl⟩
      · subst e1 e2
        rw [List.drop_of_length_le (by rw [List.length_map]; exact Nat.le_refl _)] at hgo
        exact ⟨rfl, _, _, _, _, _, _, hgo, rfl⟩
      subst e1 e2
      have et := fm_snoc (f := fun c => lsF (rw_ c)) (l := (m.casesF y.k x.k).take i') (x := c)
      rw [show (m.casesF y.k x.k).take i' ++ [c] = (m.casesF y.k x.k).take (i' + 1) by rw [List.take_add_one, hq]; rfl, ← hgo] at et
      refine x_one (xd_if (b := fin low high) ?_ (fun h => x_one (x_app 3 (by kernel_rfl) rfl ?_ (Ed.ev (ed_nm 6 (by kernel_rfl) rfl) ⟨rfl, .dat (tI c), .dat (.lst [tI [1, 0], tI [0, y.t], tI [0, y.u], tI [0, x.t], tI [0, x.u]]), .dat (.int low), .dat (oI high), s5, s6, s7, s8, ?_⟩))) fun h => x_nil ⟨rfl, .dat (tI c), .dat (.lst [tI [1, 0], tI [0, y.t], tI [0, y.u], tI [0, x.t], tI [0, x.u]]), .dat (.int low), .dat (oI high), s5, s6, s7, s8, ?_⟩)
      · cases high with
        | none => exact etd_w (ewd_or (etd_cmp (ed_nm 7 (by kernel_rfl) rfl) ed_non o_isN) (fun h => by cases h))
        | some v => exact etd_w (ewd_or (etd_cmp (ed_nm 7 (by kernel_rfl) rfl) ed_non o_isN) (fun h => ewd_or1 (etd_cmp (ed_nm 6 (by kernel_rfl) rfl) (ed_nm 7 (by kernel_rfl) rfl) o_le)))
      · rw [List.length_map]
        refine Nat.le_trans (List.length_filterMap_le _ _) ?_
        rw [List.length_take]
        omega
      · rw [et, if_pos h, Option.toList_some, List.map_append]
        rfl
      · rw [et, if_neg (by rw [h]; decide), Option.toList_none, List.append_nil]
  · subst e1 e2
    rw [List.take_of_length_le (by rw [List.length_map]; exact Nat.le_refl _)]
    refine x_freeze (i := 3) rfl (x_one (x_ret (Ed.ev (d := oI (firstF m x y)) (ed_if (etd_cmp (ed_nm 3 (by kernel_rfl) rfl) (EdN.ed (edn_lst eda_nil)) (o_neI (xs := startsF m x y) (ys := []) hr)) (fun h => ?_) (fun h => ?_)) rfl)))
    · have hne : startsF m x y ≠ [] := by simpa using h
      exact ed_blt (by kernel_rfl) (H.free 72) PyProof.Rows.boot_min (eda_cons (ed_nm 3 (by kernel_rfl) rfl) eda_nil) (fun K k => c_min hne fun v h1 h2 => by
        unfold firstF at k
        rw [show minO (startsF m x y) = some v from minO_is h1 h2] at k
        exact k)
    · have he : startsF m x y = [] := by simpa using h
      unfold firstF
      rw [he]
      exact ed_non
end Kb
namespace Kb
open PySem PySem.Spec PyProof.Rows L2
abbrev N__law_wanted : List Str := ["_law_measure", "_law_catalogue", "_law_found", "_law_i", "_law_j", "_law_start"]
theorem sc__law_wanted : FnScope N__law_wanted ["_law_measure", "_law_catalogue"] (defScope s__law_wanted) := ⟨rfl, rfl, rfl, by decide +kernel, rfl, by decide +kernel, by decide +kernel⟩
theorem ok__law_wanted {G : Gc} (H : Head G) : HasF G "_law_wanted" 5 2 (PureSp 2 R_demands) := by
  refine H.pure (st := s__law_wanted) (ps := ["_law_measure", "_law_catalogue"]) 64 56 (by kernel_rfl) (by kernel_rfl) sc__law_wanted (fun _ _ _ _ _ _ us hl => match us, hl with | [_, _], _ => rfl) fun A hr ds d hl hR => ?_
  have nd := sc__law_wanted.nd
  obtain ⟨m, cat, rfl, ho, ⟨hn, hc⟩, rfl⟩ := hR
  have hlen : ((cat.map Jb.enc).length : Int).toNat = cat.length := by rw [List.length_map]; exact Int.toNat_natCast _
  refine x_cons (xd_setN nd 2 (by kernel_rfl) (by simp [startE]) (edn_lst eda_nil) ?_)
  refine x_cons (x_for (EdI.ev (edi_rng1 (by kernel_rfl) (H.free 73) (ed_len (xs := cat.map Jb.enc) (by kernel_rfl) (H.free 69) (ed_nm 1 (by kernel_rfl) rfl) (by exact rfl)) (by rw [List.length_map]; omega) (by rw [List.length_map]; omega)) ⟨fun i n ρ => n = 0 ∧ ∃ s1 s2 s3, ρ = [.dat m.enc, .dat (.tup (cat.map Jb.enc)), .own (((List.range i).flatMap fun i => (List.range cat.length).filterMap fun j => dmAt m cat i j).map dE), s1, s2, s3], ⟨rfl, .no, .no, .no, rfl⟩, fun i x n2 ρ2 hx ⟨e1, s1, s2, s3, e2⟩ => ?_, fun n2 ρ2 ⟨e1, s1, s2, s3, e2⟩ => ?_⟩))
  · subst e1 e2
    rw [hlen] at hx
    obtain ⟨hi, rfl⟩ := rgD_at hx
    refine ⟨_, _, gd_nm nd 3 (by kernel_rfl), x_one (x_for (EdI.ev (edi_rng1 (by kernel_rfl) (H.free 73) (ed_len (xs := cat.map Jb.enc) (by kernel_rfl) (H.free 69) (ed_nm 1 (by kernel_rfl) rfl) (by exact rfl)) (by rw [List.length_map]; omega) (by rw [List.length_map]; omega)) ⟨fun j n ρ => n = 0 ∧ ∃ s2 s3, ρ = [.dat m.enc, .dat (.tup (cat.map Jb.enc)), .own ((((List.range i).flatMap fun i => (List.range cat.length).filterMap fun j => dmAt m cat i j) ++ (List.range j).filterMap fun j => dmAt m cat i j).map dE), .dat (.int (i : Nat)), s2, s3], ⟨rfl, s2, s3, by simp⟩, fun j x n2 ρ2 hx ⟨e1, s2, s3, e2⟩ => ?_, fun n2 ρ2 ⟨e1, s2, s3, e2⟩ => ?_⟩))⟩
    · subst e1 e2
      rw [hlen] at hx
      obtain ⟨hj, rfl⟩ := rgD_at hx
      have gi : cat[i]? = some (jb cat i) := getD_get hi
      have gj : cat[j]? = some (jb cat j) := getD_get hj
      refine ⟨_, _, gd_nm nd 4 (by kernel_rfl), x_cons (xd_set nd 5 (by kernel_rfl) (ed_call (ok__law_first H) (hr.mono (by decide)) (by kernel_rfl) (eda_cons (ed_nm 0 (by kernel_rfl) rfl) (eda_cons (ed_ix (ed_nm 1 (by kernel_rfl) rfl) (ed_nm 3 (by kernel_rfl) rfl) (ixt_nat (get_map gi))) (eda_cons (ed_ix (ed_nm 1 (by kernel_rfl) rfl) (ed_nm 4 (by kernel_rfl) rfl) (ixt_nat (get_map gj))) eda_nil))) ⟨m, _, _, rfl, ho, hc _ (List.mem_of_getElem? gi), hc _ (List.mem_of_getElem? gj), rfl⟩) ?_)⟩
      have et := fm_snoc (f := fun j => dmAt m cat i j) (l := List.range j) (x := j)
      rw [← List.range_succ] at et
      unfold dmAt at et
      cases hf : firstF m (jb cat i) (jb cat j) with
      | none =>
        rw [hf] at et
        refine x_one (xd_if (etd_cmp (ed_nm 5 (by kernel_rfl) rfl) ed_non o_notN) (fun h => absurd h (by decide)) fun h => x_nil ⟨rfl, .dat (.int (j : Nat)), .dat .non, ?_⟩)
        unfold dmAt
        rw [et]
        simp
        rfl
      | some v =>
        rw [hf] at et
        refine x_one (xd_if (etd_cmp (ed_nm 5 (by kernel_rfl) rfl) ed_non o_notN) (fun h => x_one (x_app 2 (by kernel_rfl) rfl ?_ (Ed.ev (d := dE (i, j, v)) (ed_tup (eda_cons (ed_nm 3 (by kernel_rfl) rfl) (eda_cons (ed_nm 4 (by kernel_rfl) rfl) (eda_cons (ed_nm 5 (by kernel_rfl) rfl) eda_nil))) (by simp)) ⟨rfl, .dat (.int (j : Nat)), .dat (.int v), ?_⟩))) fun h => by cases h)
        · rw [List.length_map, List.length_append]
          have h1 := fm_len (l := List.range i) (k := 4) (f := fun i => (List.range cat.length).filterMap fun j => dmAt m cat i j) fun y _ => by
            have := dm_len m cat y (List.range cat.length)
            rw [List.length_range] at this
            omega
          have h2 := dm_len m cat i (List.range j)
          rw [List.length_range] at h1 h2
          omega
        · unfold dmAt
          rw [et]
          simp
          rfl
    · subst e1 e2
      rw [rgD_len, hlen]
      refine ⟨rfl, .dat (.int (i : Nat)), s2, s3, ?_⟩
      rw [List.range_succ, List.flatMap_append, List.flatMap_singleton]
  · subst e1 e2
    rw [rgD_len, hlen]
    exact x_freeze (i := 2) rfl (x_one (x_ret (Ed.ev (ed_nm 2 (by kernel_rfl) rfl) rfl)))
end Kb
namespace Kb
open PySem PySem.Spec PyProof.Rows L2
abbrev N_is_integer : List Str := ["value"]
theorem sc_is_integer : FnScope N_is_integer ["value"] (defScope s_is_integer) := ⟨rfl, rfl, rfl, by decide +kernel, rfl, by decide +kernel, by decide +kernel⟩
def R_is_integer (ds : List Dat) (d : Dat) : Prop := ∃ i : Int, ds = [.int i] ∧ d = .bl true
theorem ok_is_integer {G : Gc} (H : Head G) : HasF G "is_integer" 1 1 (PureSp 1 R_is_integer) := by
  refine H.pure (st := s_is_integer) (ps := ["value"]) 8 8 (by kernel_rfl) (by kernel_rfl) sc_is_integer (fun _ _ _ _ _ _ us hl => match us, hl with | [_], _ => rfl) fun A hr ds d hl hR => ?_
  have nd := sc_is_integer.nd
  obtain ⟨i, rfl, rfl⟩ := hR
  exact x_one (x_ret (Ed.ev (ed_and (ed_isi (by kernel_rfl) (H.free 68) (by kernel_rfl) (H.free 67) PyProof.Rows.boot_int (by decide) (ed_nm 0 (by kernel_rfl) rfl) (show ("int" : String) ≠ "?" by decide) rfl) (fun h => (ed_one (ed_not (ed_isi (by kernel_rfl) (H.free 68) (by kernel_rfl) (H.free 65) PyProof.Rows.boot_bool (by decide) (ed_nm 0 (by kernel_rfl) rfl) (show ("int" : String) ≠ "?" by decide) rfl))))) rfl))
def keyF (rl : List (Int × Int)) (j : Jb) : Int := (rl.getD j.k (0, 0)).1 * j.t + (rl.getD j.k (0, 0)).2 * j.u
abbrev N_key : List Str := ["rule", "job", "a", "b"]
theorem sc_key : FnScope N_key ["rule", "job"] (defScope s_key) := ⟨rfl, rfl, rfl, by decide +kernel, rfl, by decide +kernel, by decide +kernel⟩
def R_key (ds : List Dat) (d : Dat) : Prop := ∃ (rl : List (Int × Int)) (j : Jb), ds = [.tup (rl.map pI), j.enc] ∧ j.Ok rl.length ∧ (∀ p ∈ rl, Bd 20000 p.1 ∧ Bd 20000 p.2) ∧ d = .int (keyF rl j)
theorem ok_key {G : Gc} (H : Head G) : HasF G "key" 1 2 (PureSp 2 R_key) := by
  refine H.pure (st := s_key) (ps := ["rule", "job"]) 9 9 (by kernel_rfl) (by kernel_rfl) sc_key (fun _ _ _ _ _ _ us hl => match us, hl with | [_, _], _ => rfl) fun A hr ds d hl hR => ?_
  have nd := sc_key.nd
  obtain ⟨rl, j, rfl, ho, hb, rfl⟩ := hR
  have g := getD_get (d := ((0, 0) : Int × Int)) ho.k
  have b := hb _ (List.mem_of_getElem? g)
  refine x_cons (x_asg (Ed.ev (ed_ix (ed_nm 0 (by kernel_rfl) rfl) (ed_ix (ed_nm 1 (by kernel_rfl) rfl) ed_int (.tup rfl)) (ixt_nat (get_map g))) ⟨_, (gd_tup (gds_cons (gd_nm nd 2 (by kernel_rfl)) (gds_cons (gd_nm nd 3 (by kernel_rfl)) gds_nil))), ?_⟩) (by intro _; rfl) (fun env he => by rw [swapped_of he]; kernel_rfl))
  refine x_one (x_ret (Ed.ev (ed_op (ed_op (ed_nm 2 (by kernel_rfl) rfl) (ed_ix (ed_nm 1 (by kernel_rfl) rfl) ed_int (.tup rfl)) (o_mul (cm b.1 ho.t.2))) (ed_op (ed_nm 3 (by kernel_rfl) rfl) (ed_ix (ed_nm 1 (by kernel_rfl) rfl) ed_int (.tup rfl)) (o_mul (cm b.2 ho.u.2))) o_add) rfl))
def dotF (a b : List Int) : Int := (List.zipWith (· * ·) a b).sum
abbrev N_comes_to : List Str := ["row", "point", "number", "one"]
theorem sc_comes_to : FnScope N_comes_to ["row", "point"] (defScope s_comes_to) := ⟨rfl, rfl, rfl, by decide +kernel, rfl, by decide +kernel, by decide +kernel⟩
def R_comes_to (ds : List Dat) (d : Dat) : Prop := ∃ (a b : List Int) (t : Dat), ds = [.tup [lI a, t], tI b] ∧ a.length = b.length ∧ a.length ≤ 1000 ∧ (∀ x ∈ a, Bd 20000 x) ∧ (∀ x ∈ b, Bd 20000 x) ∧ d = .int (dotF a b)
theorem ok_comes_to {G : Gc} (H : Head G) : HasF G "comes_to" 1 2 (PureSp 2 R_comes_to) := by
  refine H.pure (st := s_comes_to) (ps := ["row", "point"]) 10 10 (by kernel_rfl) (by kernel_rfl) sc_comes_to (fun _ _ _ _ _ _ us hl => match us, hl with | [_, _], _ => rfl) fun A hr ds d hl hR => ?_
  have nd := sc_comes_to.nd
  obtain ⟨a, b, t, rfl, hlen, hz, ba, bb, rfl⟩ := hR
  refine x_one (x_ret (Ed.ev (ed_blt (d := .int (dotF a b)) (by kernel_rfl) (H.free 77) PyProof.Rows.boot_sum (eda_cons (EdN.ed (EdN.is (edn_lcm nd [("number", 2), ("one", 3)] (by kernel_rfl) (ys := a.zip b) (enc := fun p => .tup [.int p.1, .int p.2]) (f := fun p => .int (p.1 * p.2)) (EdI.is (edi_zips2 (by kernel_rfl) (H.free 79) (ed_ix (ed_nm 0 (by kernel_rfl) rfl) ed_int (.tup rfl)) (ed_nm 1 (by kernel_rfl) rfl) (by exact rfl) (by exact rfl) (by simpa using hlen)) (zp2_ints a b)) (by rw [List.length_zip]; omega) (fun y hy => ⟨_, _, (by simp), (gd_tup (gds_cons (gd_nm nd 2 (by kernel_rfl)) (gds_cons (gd_nm nd 3 (by kernel_rfl)) gds_nil))), (ed_op (ed_nm 2 (by kernel_rfl) rfl) (ed_nm 3 (by kernel_rfl) rfl) (o_mul ?_))⟩)) (show _ = (List.zipWith (· * ·) a b).map Dat.int from ?_))) eda_nil) (fun K k => c_sum k)) rfl))
  · have := List.of_mem_zip (a := y.1) (b := y.2) hy
    exact cm (ba _ this.1) (bb _ this.2)
  · simp [List.zip]
abbrev N_table_row : List Str := ["row", "numbers", "is_strict", "number"]
theorem sc_table_row : FnScope N_table_row ["row"] (defScope s_table_row) := ⟨rfl, rfl, rfl, by decide +kernel, rfl, by decide +kernel, by decide +kernel⟩
def tableRowF (r : Rw) : List Int := r.1.map (fun x => 0 - x) ++ r.1 ++ [b2i r.2]
def R_table_row (ds : List Dat) (d : Dat) : Prop := ∃ r : Rw, ds = [rowE r] ∧ r.1.length ≤ 100 ∧ d = lI (tableRowF r)
theorem ok_table_row {G : Gc} (H : Head G) : HasF G "table_row" 1 1 (PureSp 1 R_table_row) := by
  refine H.pure (st := s_table_row) (ps := ["row"]) 20 12 (by kernel_rfl) (by kernel_rfl) sc_table_row (fun _ _ _ _ _ _ us hl => match us, hl with | [_], _ => rfl) fun A hr ds d hl hR => ?_
  have nd := sc_table_row.nd
  obtain ⟨r, rfl, hz, rfl⟩ := hR
  refine x_cons (x_asg (Ed.ev (ed_nm 0 (by kernel_rfl) rfl) ⟨_, (gd_tup (gds_cons (gd_nm nd 1 (by kernel_rfl)) (gds_cons (gd_nm nd 2 (by kernel_rfl)) gds_nil))), ?_⟩) (by intro _; rfl) (fun env he => by rw [swapped_of he]; kernel_rfl))
  refine x_one (x_ret (Ed.ev (EdN.ed (edn_op (EdN.ed (edn_op (EdN.ed (edn_lcm nd [("number", 3)] (by kernel_rfl) (ys := r.1) (enc := .int) (edi_tup (ed_nm 1 (by kernel_rfl) rfl)) (by omega) (fun y hy => ⟨_, _, (by simp), (gd_nm nd 3 (by kernel_rfl)), (ed_op ed_int (ed_nm 3 (by kernel_rfl) rfl) o_sub)⟩))) (EdN.ed (edn_listT (by kernel_rfl) (H.free 70) (ed_nm 1 (by kernel_rfl) rfl))) (on_cat ?_))) (EdN.ed (edn_lst (eda_cons (ed_intB (by kernel_rfl) (H.free 67) (ed_nm 2 (by kernel_rfl) rfl)) eda_nil) (by simp))) (on_cat ?_))) ?_))
  · simp; omega
  · simp; omega
  · simp [tableRowF, lI, Function.comp_def]
abbrev N_are_integers : List Str := ["value", "many", "one"]
theorem sc_are_integers : FnScope N_are_integers ["value", "many"] (defScope s_are_integers) := ⟨rfl, rfl, rfl, by decide +kernel, rfl, by decide +kernel, by decide +kernel⟩
def R_are_integers (ds : List Dat) (d : Dat) : Prop := ∃ a : List Int, ds = [tI a, .int (a.length : Nat)] ∧ a.length ≤ 1000 ∧ d = .bl true
theorem ok_are_integers {G : Gc} (H : Head G) : HasF G "are_integers" 2 2 (PureSp 2 R_are_integers) := by
  refine H.pure (st := s_are_integers) (ps := ["value", "many"]) 22 14 (by kernel_rfl) (by kernel_rfl) sc_are_integers (fun _ _ _ _ _ _ us hl => match us, hl with | [_, _], _ => rfl) fun A hr ds d hl hR => ?_
  have nd := sc_are_integers.nd
  obtain ⟨a, rfl, hz, rfl⟩ := hR
  refine x_one (x_ret (Ed.ev (d := .bl (true && (decide (((a.map Dat.int).length : Int) = (a.length : Nat)) && true))) (ed_and (ed_isi (by kernel_rfl) (H.free 68) (by kernel_rfl) (H.free 78) PyProof.Rows.boot_tuple (by decide) (ed_nm 0 (by kernel_rfl) rfl) (show ("tuple" : String) ≠ "?" by decide) rfl) (fun h => (ed_and (ed_cmp (ed_len (xs := a.map .int) (by kernel_rfl) (H.free 69) (ed_nm 0 (by kernel_rfl) rfl) (by exact rfl)) (ed_nm 1 (by kernel_rfl) rfl) o_eq) (fun h => (ed_one (Ed.is (d := .bl ((a.map fun _ => true).all id)) (ed_blt (by kernel_rfl) (H.free 63) PyProof.Rows.boot_all (eda_cons (EdN.ed (EdN.is (edn_lcm nd [("one", 2)] (by kernel_rfl) (ys := a) (enc := .int) (f := fun _ => .bl true) (edi_tup (ed_nm 0 (by kernel_rfl) rfl)) hz (fun y hy => ⟨_, _, (by simp), (gd_nm nd 2 (by kernel_rfl)), (ed_call (ok_is_integer H) (hr.mono (by decide)) (by kernel_rfl) (eda_cons (ed_nm 2 (by kernel_rfl) rfl) eda_nil) ⟨_, rfl, rfl⟩)⟩)) (show _ = (a.map fun _ => true).map Dat.bl by simp))) eda_nil) (fun K k => c_all k)) (by simp))))))) ?_))
  simp
end Kb
namespace Kb
open PySem PySem.Spec PyProof.Rows L2
theorem ixN_nat {n k : Nat} (h : k < n) : ixN n (k : Int) = some k := by
  unfold ixN
  rw [if_pos (by omega), if_pos (by omega)]
  rfl
def vecF (K : Nat) (j : Jb) : List Int := ((List.replicate (2 * K) (0 : Int)).set (2 * j.k) j.t).set (2 * j.k + 1) j.u
theorem vecF_len (K : Nat) (j : Jb) : (vecF K j).length = 2 * K := by simp [vecF]
theorem map_set {α β : Type} (f : α → β) (l : List α) (i : Nat) (x : α) : (l.set i x).map f = (l.map f).set i (f x) := by
  induction l generalizing i with
  | nil => rfl
  | cons a l ih =>
    cases i with
    | zero => rfl
    | succ i => simp [List.set_cons_succ, ih]
abbrev N_vector_of : List Str := ["kinds", "job", "kind", "time", "due", "found"]
theorem sc_vector_of : FnScope N_vector_of ["kinds", "job"] (defScope s_vector_of) := ⟨rfl, rfl, rfl, by decide +kernel, rfl, by decide +kernel, by decide +kernel⟩
def R_vector_of (ds : List Dat) (d : Dat) : Prop := ∃ (K : Nat) (j : Jb), ds = [.int (K : Nat), j.enc] ∧ j.k < K ∧ K ≤ 100 ∧ d = tI (vecF K j)
theorem ok_vector_of {G : Gc} (H : Head G) : HasF G "vector_of" 1 2 (PureSp 2 R_vector_of) := by
  refine H.pure (st := s_vector_of) (ps := ["kinds", "job"]) 23 15 (by kernel_rfl) (by kernel_rfl) sc_vector_of (fun _ _ _ _ _ _ us hl => match us, hl with | [_, _], _ => rfl) fun A hr ds d hl hR => ?_
  have nd := sc_vector_of.nd
  obtain ⟨K, j, rfl, hk, hK, rfl⟩ := hR
  have cK : CMulW 2 (K : Int) := cm (j := 2) (k := 7) (by decide) (by show (K : Int).natAbs < 2 ^ 7; omega)
  have ck : CMulW 2 (j.k : Int) := cm (j := 2) (k := 7) (by decide) (by show (j.k : Int).natAbs < 2 ^ 7; omega)
  have e2 : (2 : Int) * (K : Int) = ((2 * K : Nat) : Int) := by omega
  have e3 : (2 : Int) * (j.k : Int) = ((2 * j.k : Nat) : Int) := by omega
  refine x_cons (x_asg (Ed.ev (ed_nm 1 (by kernel_rfl) rfl) ⟨_, (gd_tup (gds_cons (gd_nm nd 2 (by kernel_rfl)) (gds_cons (gd_nm nd 3 (by kernel_rfl)) (gds_cons (gd_nm nd 4 (by kernel_rfl)) gds_nil)))), ?_⟩) (by intro _; rfl) (fun env he => by rw [swapped_of he]; kernel_rfl))
  refine x_cons (xd_setN (ds := (List.replicate (2 * K) (0 : Int)).map Dat.int) nd 5 (by kernel_rfl) (by simp [startE]) (EdN.is (edn_op (EdN.ed (edn_lst (eda_cons ed_int eda_nil))) (ed_op ed_int (ed_nm 0 (by kernel_rfl) rfl) (o_mul cK)) (on_rep (by omega) (by omega) (by simp; omega))) ?_) ?_)
  · rw [e2, Int.toNat_natCast]
    simp
  refine x_cons (x_put 5 (by kernel_rfl) rfl (Ed.ev (ed_nm 3 (by kernel_rfl) rfl) (Ed.ev (ed_op ed_int (ed_nm 2 (by kernel_rfl) rfl) (o_mul ck)) ⟨_, 2 * j.k, rfl, by rw [e3]; exact ixN_nat (by simp; omega), ?_⟩)))
  refine x_cons (x_put 5 (by kernel_rfl) rfl (Ed.ev (ed_nm 4 (by kernel_rfl) rfl) (Ed.ev (ed_op (ed_op ed_int (ed_nm 2 (by kernel_rfl) rfl) (o_mul ck)) ed_int o_add) ⟨_, 2 * j.k + 1, rfl, by rw [e3, show ((2 * j.k : Nat) : Int) + 1 = ((2 * j.k + 1 : Nat) : Int) by omega]; exact ixN_nat (by simp; omega), ?_⟩)))
  refine x_freeze (i := 5) rfl (x_one (x_ret (Ed.ev (ed_tupleL (by kernel_rfl) (H.free 78) (ed_nm 5 (by kernel_rfl) rfl)) ?_)))
  simp [vecF, tI, map_set]
def rowF (K : Nat) (x y : Jb) : List Int := vless (vecF K y) (vecF K x)
theorem rowF_len (K : Nat) (x y : Jb) : (rowF K x y).length = 2 * K := by rw [rowF, vless_len, vecF_len, vecF_len]; omega
theorem vecF_bd {K k : Nat} {j : Jb} (h1 : Bd k j.t) (h2 : Bd k j.u) : ∀ x ∈ vecF K j, Bd k x := fun x hx => by
  unfold vecF at hx
  rcases List.mem_or_eq_of_mem_set hx with hx | rfl
  · rcases List.mem_or_eq_of_mem_set hx with hx | rfl
    · rw [List.eq_of_mem_replicate hx]
      exact Nat.lt_of_lt_of_le (by decide : (0 : Int).natAbs < 1) Nat.one_le_two_pow
    · exact h1
  · exact h2
abbrev N_row_of : List Str := ["kinds", "a", "b"]
theorem sc_row_of : FnScope N_row_of ["kinds", "a", "b"] (defScope s_row_of) := ⟨rfl, rfl, rfl, by decide +kernel, rfl, by decide +kernel, by decide +kernel⟩
def R_row_of (ds : List Dat) (d : Dat) : Prop := ∃ (K : Nat) (x y : Jb), ds = [.int (K : Nat), x.enc, y.enc] ∧ x.Ok K ∧ y.Ok K ∧ K ≤ 100 ∧ d = tI (rowF K x y)
theorem ok_row_of {G : Gc} (H : Head G) : HasF G "row_of" 3 3 (PureSp 3 R_row_of) := by
  refine H.pure (st := s_row_of) (ps := ["kinds", "a", "b"]) 24 16 (by kernel_rfl) (by kernel_rfl) sc_row_of (fun _ _ _ _ _ _ us hl => match us, hl with | [_, _, _], _ => rfl) fun A hr ds d hl hR => ?_
  have nd := sc_row_of.nd
  obtain ⟨K, x, y, rfl, ox, oy, hK, rfl⟩ := hR
  refine x_one (x_ret (Ed.ev (ed_call (ok_less H) (hr.mono (by decide)) (by kernel_rfl) (eda_cons (ed_call (ok_vector_of H) (hr.mono (by decide)) (by kernel_rfl) (eda_cons (ed_nm 0 (by kernel_rfl) rfl) (eda_cons (ed_nm 2 (by kernel_rfl) rfl) eda_nil)) ⟨K, y, rfl, oy.k, hK, rfl⟩) (eda_cons (ed_call (ok_vector_of H) (hr.mono (by decide)) (by kernel_rfl) (eda_cons (ed_nm 0 (by kernel_rfl) rfl) (eda_cons (ed_nm 1 (by kernel_rfl) rfl) eda_nil)) ⟨K, x, rfl, ox.k, hK, rfl⟩) eda_nil)) ⟨_, _, rfl, ?_, ?_, ?_, rfl⟩) rfl))
  · rw [vecF_len, vecF_len]
  · rw [vecF_len]; omega
  · exact fun z hz => (vecF_bd ox.t.2 ox.u.2 z hz).mono (by decide)
/-- a sight: x ahead of y, strictly -/
abbrev Sg2 := Jb × Jb
def sE (s : Sg2) : Dat := .tup [s.1.enc, s.2.enc, .bl true]
def okS (K : Nat) (ss : List Sg2) : Prop := ss.length ≤ 100 ∧ ∀ s ∈ ss, s.1.Ok K ∧ s.2.Ok K
abbrev N_rows_of : List Str := ["kinds", "sights", "a", "b", "is_strict"]
theorem sc_rows_of : FnScope N_rows_of ["kinds", "sights"] (defScope s_rows_of) := ⟨rfl, rfl, rfl, by decide +kernel, rfl, by decide +kernel, by decide +kernel⟩
def rowsOfF (K : Nat) (ss : List Sg2) : List Rw := ss.map fun s => (rowF K s.1 s.2, true)
def R_rows_of (ds : List Dat) (d : Dat) : Prop := ∃ (K : Nat) (ss : List Sg2), ds = [.int (K : Nat), .tup (ss.map sE)] ∧ okS K ss ∧ K ≤ 100 ∧ d = .tup ((rowsOfF K ss).map rowE)
theorem ok_rows_of {G : Gc} (H : Head G) : HasF G "rows_of" 4 2 (PureSp 2 R_rows_of) := by
  refine H.pure (st := s_rows_of) (ps := ["kinds", "sights"]) 25 17 (by kernel_rfl) (by kernel_rfl) sc_rows_of (fun _ _ _ _ _ _ us hl => match us, hl with | [_, _], _ => rfl) fun A hr ds d hl hR => ?_
  have nd := sc_rows_of.nd
  obtain ⟨K, ss, rfl, ⟨hn, ho⟩, hK, rfl⟩ := hR
  refine x_one (x_ret (Ed.ev (ed_tupleL (by kernel_rfl) (H.free 78) (EdN.ed (edn_lcm nd [("a", 2), ("b", 3), ("is_strict", 4)] (by kernel_rfl) (ys := ss) (enc := sE) (edi_tup (ed_nm 1 (by kernel_rfl) rfl)) (by omega) (fun y hy => ⟨_, _, (by simp), (gd_tup (gds_cons (gd_nm nd 2 (by kernel_rfl)) (gds_cons (gd_nm nd 3 (by kernel_rfl)) (gds_cons (gd_nm nd 4 (by kernel_rfl)) gds_nil)))), (ed_tup (eda_cons (ed_call (ok_row_of H) (hr.mono (by decide)) (by kernel_rfl) (eda_cons (ed_nm 0 (by kernel_rfl) rfl) (eda_cons (ed_nm 2 (by kernel_rfl) rfl) (eda_cons (ed_nm 3 (by kernel_rfl) rfl) eda_nil))) ⟨K, y.1, y.2, rfl, (ho y hy).1, (ho y hy).2, hK, rfl⟩) (eda_cons (ed_nm 4 (by kernel_rfl) rfl) eda_nil)) (by simp))⟩)))) ?_))
  simp [rowsOfF, Function.comp_def, rowE]
def evens : List Int → List (Int × Int)
  | a :: b :: l => (a, b) :: evens l
  | _ => []
theorem st_none {α : Type} (xs : List α) (k : Nat) (h : xs.length = 2 * k) (hk : 0 < k) : stepL none xs = (List.range k).filterMap fun i => xs[2 * i]? := by
  unfold stepL
  have e1 : (Builtin.Slice.sliceAdjust none none 2 (xs.length : Nat)).1 = 0 := by simp [Builtin.Slice.sliceAdjust]
  have e2 : (Builtin.Slice.sliceAdjust none none 2 (xs.length : Nat)).2 = (xs.length : Nat) := by simp [Builtin.Slice.sliceAdjust]
  have e3 : Builtin.Slice.slicePlaces 0 (xs.length : Nat) 2 = k := by
    unfold Builtin.Slice.slicePlaces
    rw [if_pos (by decide), if_pos (by omega)]
    omega
  rw [e1, e2, e3]
  congr 1
  funext i
  rw [show ((0 : Int) + (i : Int) * 2).toNat = 2 * i by omega]
theorem st_one {α : Type} (xs : List α) (k : Nat) (h : xs.length = 2 * k) (hk : 0 < k) : stepL (some 1) xs = (List.range k).filterMap fun i => xs[2 * i + 1]? := by
  unfold stepL
  have e1 : (Builtin.Slice.sliceAdjust (some 1) none 2 (xs.length : Nat)).1 = 1 := by simp [Builtin.Slice.sliceAdjust]; omega
  have e2 : (Builtin.Slice.sliceAdjust (some 1) none 2 (xs.length : Nat)).2 = (xs.length : Nat) := by simp [Builtin.Slice.sliceAdjust]
  have e3 : Builtin.Slice.slicePlaces 1 (xs.length : Nat) 2 = k := by
    unfold Builtin.Slice.slicePlaces
    rw [if_pos (by decide), if_pos (by omega)]
    omega
  rw [e1, e2, e3]
  congr 1
  funext i
  rw [show ((1 : Int) + (i : Int) * 2).toNat = 2 * i + 1 by omega]
abbrev N_rule_of : List Str := ["numbers", "a", "b"]
theorem sc_rule_of : FnScope N_rule_of ["numbers"] (defScope s_rule_of) := ⟨rfl, rfl, rfl, by decide +kernel, rfl, by decide +kernel, by decide +kernel⟩
def R_rule_of (ds : List Dat) (d : Dat) : Prop := ∃ (K : Nat) (a : List Int), ds = [tI a] ∧ a.length = 2 * K ∧ 1 ≤ K ∧ K ≤ 3 ∧ d = .tup ((evens a).map pI)
theorem ok_rule_of {G : Gc} (H : Head G) : HasF G "rule_of" 1 1 (PureSp 1 R_rule_of) := by
  refine H.pure (st := s_rule_of) (ps := ["numbers"]) 26 18 (by kernel_rfl) (by kernel_rfl) sc_rule_of (fun _ _ _ _ _ _ us hl => match us, hl with | [_], _ => rfl) fun A hr ds d hl hR => ?_
  have nd := sc_rule_of.nd
  obtain ⟨K, a, rfl, hlen, h1, h3, rfl⟩ := hR
  have key : zp2 (stepL none (a.map Dat.int)) (stepL (some 1) (a.map Dat.int)) = (evens a).map pI ∧ (stepL none (a.map Dat.int)).length = (stepL (some 1) (a.map Dat.int)).length ∧ (evens a).length ≤ 3 := by
    have hk : K = 1 ∨ K = 2 ∨ K = 3 := by omega
    rw [st_none _ K (by simpa using hlen) h1, st_one _ K (by simpa using hlen) h1]
    rcases hk with rfl | rfl | rfl
    · match a, hlen with
      | [a, b], _ => exact ⟨rfl, rfl, by simp [evens]⟩
    · match a, hlen with
      | [a, b, c, d], _ => exact ⟨rfl, rfl, by simp [evens]⟩
    · match a, hlen with
      | [a, b, c, d, e, f], _ => exact ⟨rfl, rfl, by simp [evens]⟩
  refine x_one (x_ret (Ed.ev (ed_tupleL (by kernel_rfl) (H.free 78) (EdN.ed (edn_lcm nd [("a", 1), ("b", 2)] (by kernel_rfl) (ys := evens a) (enc := pI) (f := pI) (EdI.is (edi_zips2 (by kernel_rfl) (H.free 79) (ed_step (ed_nm 0 (by kernel_rfl) rfl) (by simp) (by simp; omega) (fun _ => po_nil)) (ed_step (ed_nm 0 (by kernel_rfl) rfl) (by simp) (by simp; omega) (fun _ => po_one)) (by exact rfl) (by exact rfl) key.2.1) key.1) (by omega) (fun y hy => ⟨_, _, (by simp), (gd_tup (gds_cons (gd_nm nd 1 (by kernel_rfl)) (gds_cons (gd_nm nd 2 (by kernel_rfl)) gds_nil))), (ed_tup (eda_cons (ed_nm 1 (by kernel_rfl) rfl) (eda_cons (ed_nm 2 (by kernel_rfl) rfl) eda_nil)) (by simp))⟩)))) rfl))
abbrev N_fits : List Str := ["rule", "sights", "a", "b", "is_strict"]
theorem sc_fits : FnScope N_fits ["rule", "sights"] (defScope s_fits) := ⟨rfl, rfl, rfl, by decide +kernel, rfl, by decide +kernel, by decide +kernel⟩
def fitsF (rl : List (Int × Int)) (ss : List Sg2) : Bool := ss.all fun s => decide (keyF rl s.1 + 1 ≤ keyF rl s.2)
def okRl (rl : List (Int × Int)) : Prop := ∀ p ∈ rl, Bd 20000 p.1 ∧ Bd 20000 p.2
def R_fits (ds : List Dat) (d : Dat) : Prop := ∃ (rl : List (Int × Int)) (ss : List Sg2), ds = [.tup (rl.map pI), .tup (ss.map sE)] ∧ okS rl.length ss ∧ okRl rl ∧ d = .bl (fitsF rl ss)
theorem ok_fits {G : Gc} (H : Head G) : HasF G "fits" 2 2 (PureSp 2 R_fits) := by
  refine H.pure (st := s_fits) (ps := ["rule", "sights"]) 27 19 (by kernel_rfl) (by kernel_rfl) sc_fits (fun _ _ _ _ _ _ us hl => match us, hl with | [_, _], _ => rfl) fun A hr ds d hl hR => ?_
  have nd := sc_fits.nd
  obtain ⟨rl, ss, rfl, ⟨hn, ho⟩, hb, rfl⟩ := hR
  refine x_one (x_ret (Ed.ev (d := .bl ((ss.map fun s => decide (keyF rl s.1 + 1 ≤ keyF rl s.2)).all id)) (ed_blt (by kernel_rfl) (H.free 63) PyProof.Rows.boot_all (eda_cons (EdN.ed (EdN.is (edn_lcm nd [("a", 2), ("b", 3), ("is_strict", 4)] (by kernel_rfl) (ys := ss) (enc := sE) (edi_tup (ed_nm 1 (by kernel_rfl) rfl)) (by omega) (fun y hy => ⟨_, _, (by simp), (gd_tup (gds_cons (gd_nm nd 2 (by kernel_rfl)) (gds_cons (gd_nm nd 3 (by kernel_rfl)) (gds_cons (gd_nm nd 4 (by kernel_rfl)) gds_nil)))), (ed_cmp (ed_op (ed_call (ok_key H) (hr.mono (by decide)) (by kernel_rfl) (eda_cons (ed_nm 0 (by kernel_rfl) rfl) (eda_cons (ed_nm 2 (by kernel_rfl) rfl) eda_nil)) ⟨rl, y.1, rfl, (ho y hy).1, hb, rfl⟩) (ed_intB (by kernel_rfl) (H.free 67) (ed_nm 4 (by kernel_rfl) rfl)) o_add) (ed_call (ok_key H) (hr.mono (by decide)) (by kernel_rfl) (eda_cons (ed_nm 0 (by kernel_rfl) rfl) (eda_cons (ed_nm 3 (by kernel_rfl) rfl) eda_nil)) ⟨rl, y.2, rfl, (ho y hy).2, hb, rfl⟩) o_le)⟩)) (show _ = (ss.map fun s => decide (keyF rl s.1 + 1 ≤ keyF rl s.2)).map Dat.bl by simp))) eda_nil) (fun K k => c_all k)) ?_))
  simp [fitsF, Function.comp_def]
end Kb
namespace Kb
open PySem PySem.Spec PyProof.Rows L2
theorem swaps_of {e : Expr} {t : Option Expr} {l : Nat} {env : Env} {sc : Scope} (h : env.scope = sc) : swapsWith e t l env = swapsWith e t l (envOf sc) := by
  subst h
  rfl
/-- name = e: a new list; the name a cell -/
theorem x_setNc {S : Sg} {g : Wd} {e : Expr} {ρ : En} {n : Nat} {x : Str} {pos py : Pos} {D : DE} (nd : S.N.Nodup) (i : Nat) (hst : stB S i x = true) (hi : i < ρ.length) (h : EvN S g e ρ n fun n1 ds => D.nx n1 (ρ.set i (.own ds))) (hs : swapsWith e (some (.Name x py)) pos.line (envOf S.sc) = pure false) : Ex1 S g (.Assign [.Name x py] e pos) ρ n D := fun M Hb ad σ H D' E R => by
  obtain ⟨h1, h2, h3⟩ := stB_ok hst
  exact ⟨tAsg (wE S e) (gName i), fun X c => ps_set (by rw [c.N]; exact nd) (by rw [c.N]; exact h1) (by rw [c.sc]; exact h2) (wE_ok c) (by rw [swaps_of c.sc]; exact hs) (by rw [c.fn, c.sc]; exact h3), h M Hb ad σ H E _ fun n1 p us H1 ds f k j hp s kd =>
    R.nx n1 _ _ H1 _ (E.setOwn hi f k j hp s) kd⟩
theorem xd_setNc {S : Sg} {g : Wd} {e : Expr} {ρ : En} {n : Nat} {x : Str} {pos py : Pos} {D : DE} {ds : List Dat} (nd : S.N.Nodup) (i : Nat) (hst : stB S i x = true) (hi : i < ρ.length) (h : EdN S g e ρ ds) (hs : swapsWith e (some (.Name x py)) pos.line (envOf S.sc) = pure false) (k : D.nx n (ρ.set i (.own ds))) : Ex1 S g (.Assign [.Name x py] e pos) ρ n D :=
  x_setNc nd i hst hi (EdN.ev h k) hs
theorem zp2_gen {α β : Type} (f : α → Dat) (g : β → Dat) (a : List α) (b : List β) : zp2 (a.map f) (b.map g) = (a.zip b).map fun p => .tup [f p.1, g p.2] := by
  unfold zp2
  rw [List.zip_map, List.map_map]
  rfl
def isQF (K : Nat) (ss : List Sg2) (v : List Int) : Bool := v.all (fun x => decide (0 ≤ x)) && (v.any (fun x => decide (0 < x)) && (List.range (2 * K)).all fun k => decide (dotF (ss.map fun s => (rowF K s.1 s.2).getD k 0) v = 0))
abbrev N_is_quarrel : List Str := ["kinds", "sights", "value", "rows", "one", "sight", "a", "b", "is_strict", "k", "row"]
theorem sc_is_quarrel : FnScope N_is_quarrel ["kinds", "sights", "value"] (defScope s_is_quarrel) := ⟨rfl, rfl, rfl, by decide +kernel, rfl, by decide +kernel, by decide +kernel⟩
def R_is_quarrel (ds : List Dat) (d : Dat) : Prop := ∃ (K : Nat) (ss : List Sg2) (v : List Int), ds = [.int (K : Nat), .tup (ss.map sE), tI v] ∧ okS K ss ∧ K ≤ 100 ∧ v.length = ss.length ∧ (∀ x ∈ v, Bd 20000 x) ∧ d = .bl (isQF K ss v)
theorem any_zip_fst {v : List Int} {ss : List Sg2} (h : v.length = ss.length) : ((v.zip ss).map fun p => decide (0 < p.1) && true).any id = v.any fun x => decide (0 < x) := by
  rw [List.any_map]
  induction v generalizing ss with
  | nil => simp
  | cons x v ih =>
    cases ss with
    | nil => simp at h
    | cons s ss =>
      rw [List.zip_cons_cons, List.any_cons, List.any_cons, ih (by simpa using h)]
      simp
theorem rowF_bd {K : Nat} {x y : Jb} (ox : x.Ok K) (oy : y.Ok K) : ∀ z ∈ rowF K x y, Bd 71 z := bd_vless (vecF_bd oy.t.2 oy.u.2) (vecF_bd ox.t.2 ox.u.2)
theorem ok_is_quarrel {G : Gc} (H : Head G) : HasF G "is_quarrel" 4 3 (PureSp 3 R_is_quarrel) := by
  refine H.pure (st := s_is_quarrel) (ps := ["kinds", "sights", "value"]) 30 22 (by kernel_rfl) (by kernel_rfl) sc_is_quarrel (fun _ _ _ _ _ _ us hl => match us, hl with | [_, _, _], _ => rfl) fun A hr ds d hl hR => ?_
  have nd := sc_is_quarrel.nd
  obtain ⟨K, ss, v, rfl, ⟨hn, ho⟩, hK, hlen, hv, rfl⟩ := hR
  unfold isQF
  have cK : CMulW 2 (K : Int) := cm (j := 2) (k := 7) (by decide) (by show (K : Int).natAbs < 2 ^ 7; omega)
  have e2 : (2 : Int) * (K : Int) = ((2 * K : Nat) : Int) := by omega
  refine x_cons (xd_if (b := !(true) || !(v.all fun x => decide (0 ≤ x))) (etd_w (ewd_or (etd_not (etd_val (ed_call (ok_are_integers H) (hr.mono (by decide)) (by kernel_rfl) (eda_cons (ed_nm 2 (by kernel_rfl) rfl) (eda_cons (ed_len (xs := ss.map sE) (by kernel_rfl) (H.free 69) (ed_nm 1 (by kernel_rfl) rfl) (by exact rfl)) eda_nil)) ⟨v, by rw [List.length_map, hlen], by omega, rfl⟩))) (fun h => (ewd_or1 (etd_not (etd_val (Ed.is (d := .bl ((v.map fun x => decide (0 ≤ x)).all id)) (ed_blt (by kernel_rfl) (H.free 63) PyProof.Rows.boot_all (eda_cons (EdN.ed (EdN.is (edn_lcm nd [("one", 4)] (by kernel_rfl) (ys := v) (enc := .int) (edi_tup (ed_nm 2 (by kernel_rfl) rfl)) (by omega) (fun y hy => ⟨_, _, (by simp), (gd_nm nd 4 (by kernel_rfl)), (ed_cmp (ed_nm 4 (by kernel_rfl) rfl) ed_int o_ge)⟩)) (show _ = (v.map fun x => decide (0 ≤ x)).map Dat.bl by simp))) eda_nil) (fun K k => c_all k)) (by simp [Function.comp_def])))))))) (fun h => ?_) fun h => x_nil ?_)
  · have h1 : (v.all fun x => decide (0 ≤ x)) = false := by simpa using h
    exact x_one (x_ret (Ed.ev ed_bl (by rw [h1]; rfl)))
  have h1 : (v.all fun x => decide (0 ≤ x)) = true := by
    cases z : (v.all fun x => decide (0 ≤ x)) with
    | true => rfl
    | false => rw [z] at h; cases h
  rw [h1]
  refine x_cons (xd_if (b := !(v.any fun x => decide (0 < x))) (etd_not (etd_val (Ed.is (d := .bl (((v.zip ss).map fun p => decide (0 < p.1) && true).any id)) (ed_blt (by kernel_rfl) (H.free 64) PyProof.Rows.boot_any (eda_cons (EdN.ed (EdN.is (edn_lcm nd [("one", 4), ("sight", 5)] (by kernel_rfl) (ys := v.zip ss) (enc := fun p => .tup [.int p.1, sE p.2]) (EdI.is (edi_zips2 (by kernel_rfl) (H.free 79) (ed_nm 2 (by kernel_rfl) rfl) (ed_nm 1 (by kernel_rfl) rfl) (by exact rfl) (by exact rfl) (by simpa using hlen)) (zp2_gen _ _ v ss)) (by rw [List.length_zip]; omega) (fun y hy => ⟨_, _, (by simp), (gd_tup (gds_cons (gd_nm nd 4 (by kernel_rfl)) (gds_cons (gd_nm nd 5 (by kernel_rfl)) gds_nil))), (ed_and (ed_cmp (ed_nm 4 (by kernel_rfl) rfl) ed_int o_gt) (fun h => (ed_one (ed_ix (ed_nm 5 (by kernel_rfl) rfl) ed_int (.tup rfl)))))⟩)) (show _ = ((v.zip ss).map fun p => decide (0 < p.1) && true).map Dat.bl by simp))) eda_nil) (fun K k => c_any k)) (by rw [any_zip_fst hlen])))) (fun h => ?_) fun h => x_nil ?_)
  · have h2 : (v.any fun x => decide (0 < x)) = false := by simpa using h
    exact x_one (x_ret (Ed.ev ed_bl (by rw [h2]; rfl)))
  have h2 : (v.any fun x => decide (0 < x)) = true := by
    cases z : (v.any fun x => decide (0 < x)) with
    | true => rfl
    | false => rw [z] at h; cases h
  rw [h2]
  refine x_cons (xd_setNc nd 3 (by kernel_rfl) (by simp [startE]) (edn_lcm nd [("a", 6), ("b", 7), ("is_strict", 8)] (by kernel_rfl) (ys := ss) (enc := sE) (f := fun s => tI (rowF K s.1 s.2)) (edi_tup (ed_nm 1 (by kernel_rfl) rfl)) (by omega) (fun y hy => ⟨_, _, (by simp), (gd_tup (gds_cons (gd_nm nd 6 (by kernel_rfl)) (gds_cons (gd_nm nd 7 (by kernel_rfl)) (gds_cons (gd_nm nd 8 (by kernel_rfl)) gds_nil)))), (ed_call (ok_row_of H) (hr.mono (by decide)) (by kernel_rfl) (eda_cons (ed_nm 0 (by kernel_rfl) rfl) (eda_cons (ed_nm 6 (by kernel_rfl) rfl) (eda_cons (ed_nm 7 (by kernel_rfl) rfl) eda_nil))) ⟨K, y.1, y.2, rfl, (ho y hy).1, (ho y hy).2, hK, rfl⟩)⟩)) (by kernel_rfl) ?_)
  refine x_freeze (i := 3) rfl ?_
  refine x_one (x_ret (Ed.ev (d := .bl (!((List.range (2 * K)).map fun k => dotF (ss.map fun s => (rowF K s.1 s.2).getD k 0) v).any fun n => n != 0)) (ed_not (ed_blt (by kernel_rfl) (H.free 64) PyProof.Rows.boot_any (eda_cons (EdN.ed (EdN.is (edn_lcm nd [("k", 9)] (by kernel_rfl) (ys := List.range (2 * K)) (enc := fun i => Dat.int (i : Nat)) (f := fun k => .int (dotF (ss.map fun s => (rowF K s.1 s.2).getD k 0) v)) (EdI.is (edi_rng1 (by kernel_rfl) (H.free 73) (ed_op ed_int (ed_nm 0 (by kernel_rfl) rfl) (o_mul cK)) (by omega) (by omega)) ?_) (by rw [List.length_range]; omega) (fun k hk => ⟨_, _, (by simp), (gd_nm nd 9 (by kernel_rfl)), (ed_call (ok_comes_to H) (hr.mono (by decide)) (by kernel_rfl) (eda_cons (ed_tup (eda_cons (EdN.ed (EdN.is (edn_lcm nd [("row", 10)] (by kernel_rfl) (ys := ss) (enc := fun s => tI (rowF K s.1 s.2)) (f := fun s => .int ((rowF K s.1 s.2).getD k 0)) (edi_lst (ed_nm 3 (by kernel_rfl) rfl)) (by omega) (fun y hy => ⟨_, _, (by simp), (gd_nm nd 10 (by kernel_rfl)), (ed_ix (ed_nm 10 (by kernel_rfl) rfl) (ed_nm 9 (by kernel_rfl) rfl) (tI_at ?_))⟩)) (show _ = (ss.map fun s => (rowF K s.1 s.2).getD k 0).map Dat.int by simp))) (eda_cons ed_bl eda_nil)) (by simp)) (eda_cons (ed_nm 2 (by kernel_rfl) rfl) eda_nil)) ⟨_, v, .bl true, rfl, ?_, ?_, ?_, hv, rfl⟩)⟩)) (show _ = ((List.range (2 * K)).map fun k => dotF (ss.map fun s => (rowF K s.1 s.2).getD k 0) v).map Dat.int by simp))) eda_nil) (fun K k => c_anyI k))) ?_))
  · rw [e2, Int.toNat_natCast]; exact rgD_range _
  · rw [rowF_len]; exact List.mem_range.mp hk
  · rw [List.length_map, hlen]
  · rw [List.length_map]; omega
  · intro x hx
    obtain ⟨s, hs, rfl⟩ := List.mem_map.mp hx
    exact (rowF_bd (ho s hs).1 (ho s hs).2 _ (getD_mem (by rw [rowF_len]; exact List.mem_range.mp hk))).mono (by decide)
  · congr 1
    rw [Bool.true_and, Bool.true_and, List.any_map]
    induction (List.range (2 * K)) with
    | nil => rfl
    | cons k l ih =>
      rw [List.any_cons, List.all_cons, Bool.not_or, ih]
      congr 1
      simp only [Function.comp_apply]
      generalize dotF (ss.map fun s => (rowF K s.1 s.2).getD k 0) v = z
      by_cases hz : z = 0 <;> simp [hz]
end Kb
namespace Kb
open PySem PySem.Spec PyProof.Rows L2
abbrev N__law_same : List Str := ["_law_found", "_law_due", "_law_one", "_law_other"]
theorem sc__law_same : FnScope N__law_same ["_law_found", "_law_due"] (defScope s__law_same) := ⟨rfl, rfl, rfl, by decide +kernel, rfl, by decide +kernel, by decide +kernel⟩
def R_same (P : Dat → Prop) (ds : List Dat) (d : Dat) : Prop := ∃ x : Dat, P x ∧ ds = [x, x] ∧ d = .bl true
inductive Flat0 : Dat → Prop
  | int (i : Int) : Flat0 (.int i)
  | bl (b : Bool) : Flat0 (.bl b)
/-- x of flat things, or of such as P -/
inductive Up (P : Dat → Prop) : Dat → Prop
  | int (i : Int) : Up P (.int i)
  | bl (b : Bool) : Up P (.bl b)
  | tup (l : List Dat) : (∀ x ∈ l, P x) → l.length ≤ 1000 → Up P (.tup l)
  | lst (l : List Dat) : (∀ x ∈ l, P x) → l.length ≤ 1000 → Up P (.lst l)
theorem zp2_self (l : List Dat) : zp2 l l = l.map fun x => .tup [x, x] := by
  unfold zp2
  induction l with
  | nil => rfl
  | cons x l ih => rw [List.zip_cons_cons, List.map_cons, ih]; rfl
theorem ok__law_same {G : Gc} (H : Head G) (k : Nat) (P : Dat → Prop) (F : (∀ x, ¬ P x) ∨ HasF G "_law_same" k 2 (PureSp 2 (R_same P))) : HasF G "_law_same" (k + 1) 2 (PureSp 2 (R_same (Up P))) := by
  refine H.pure (st := s__law_same) (ps := ["_law_found", "_law_due"]) 40 32 (by kernel_rfl) (by kernel_rfl) sc__law_same (fun _ _ _ _ _ _ us hl => match us, hl with | [_, _], _ => rfl) fun A hr ds d hl hR => ?_
  have nd := sc__law_same.nd
  obtain ⟨x, hx, rfl, rfl⟩ := hR
  have n1 : ∀ (ρ : En) (D : DE), Ex (G.sg A N__law_same (defScope s__law_same)) wd0 ((defBody s__law_same).drop 1) [.dat x, .dat x, .no, .no] 0 D → isN x = false → Ex (G.sg A N__law_same (defScope s__law_same)) wd0 (defBody s__law_same) [.dat x, .dat x, .no, .no] 0 D := fun ρ D h hn =>
    x_cons (xd_if (b := isN x || isN x) (etd_w (ewd_or (etd_cmp (ed_nm 1 (by kernel_rfl) rfl) ed_non o_isN) (fun h => (ewd_or1 (etd_cmp (ed_nm 0 (by kernel_rfl) rfl) ed_non o_isN))))) (fun h => by rw [hn] at h; cases h) fun _ => x_nil h)
  cases hx with
  | int i =>
    have hi : (show String from dTy (.int i)) ≠ "?" := (by show ("int" : String) ≠ "?"; decide)
    refine n1 [] _ ?_ rfl
    refine x_cons (xd_if (b := false || false) (etd_w (ewd_or (etd_val (ed_isi (by kernel_rfl) (H.free 68) (by kernel_rfl) (H.free 65) PyProof.Rows.boot_bool (by decide) (ed_nm 1 (by kernel_rfl) rfl) hi rfl)) (fun h => (ewd_or1 (etd_val (ed_isi (by kernel_rfl) (H.free 68) (by kernel_rfl) (H.free 65) PyProof.Rows.boot_bool (by decide) (ed_nm 0 (by kernel_rfl) rfl) hi rfl)))))) (fun h => by cases h) fun _ => x_nil ?_)
    refine x_cons (xd_if (b := true) (etd_val (ed_isi2 (by kernel_rfl) (H.free 68) (by kernel_rfl) (H.free 67) PyProof.Rows.boot_int (by decide) (by kernel_rfl) (H.free 76) PyProof.Rows.boot_str (by decide) (ed_nm 1 (by kernel_rfl) rfl) hi ⟨true, false, rfl, rfl, rfl⟩)) (fun _ => ?_) fun h => by cases h)
    refine x_cons (xd_if (b := false) (etd_cmp (ed_isi (by kernel_rfl) (H.free 68) (by kernel_rfl) (H.free 67) PyProof.Rows.boot_int (by decide) (ed_nm 0 (by kernel_rfl) rfl) hi rfl) (ed_isi (by kernel_rfl) (H.free 68) (by kernel_rfl) (H.free 67) PyProof.Rows.boot_int (by decide) (ed_nm 1 (by kernel_rfl) rfl) hi rfl) o_neB) (fun h => by cases h) fun _ => x_nil ?_)
    refine x_one (x_ret (Ed.ev (d := .bl (true && decide (i = i))) (ed_and (ed_isi2 (by kernel_rfl) (H.free 68) (by kernel_rfl) (H.free 67) PyProof.Rows.boot_int (by decide) (by kernel_rfl) (H.free 76) PyProof.Rows.boot_str (by decide) (ed_nm 0 (by kernel_rfl) rfl) hi ⟨true, false, rfl, rfl, rfl⟩) (fun h => (ed_one (ed_cmp (ed_nm 0 (by kernel_rfl) rfl) (ed_nm 1 (by kernel_rfl) rfl) o_eq)))) ?_))
    simp
  | bl b =>
    have hi : (show String from dTy (.bl b)) ≠ "?" := (by show ("bool" : String) ≠ "?"; decide)
    refine n1 [] _ ?_ rfl
    refine x_cons (xd_if (b := true || false) (etd_w (ewd_or (etd_val (ed_isi (by kernel_rfl) (H.free 68) (by kernel_rfl) (H.free 65) PyProof.Rows.boot_bool (by decide) (ed_nm 1 (by kernel_rfl) rfl) hi rfl)) (fun h => by cases h))) (fun _ => ?_) fun h => by cases h)
    refine x_one (x_ret (Ed.ev (d := .bl (true && (true && decide (b = b)))) (ed_and (ed_isi (by kernel_rfl) (H.free 68) (by kernel_rfl) (H.free 65) PyProof.Rows.boot_bool (by decide) (ed_nm 1 (by kernel_rfl) rfl) hi rfl) (fun h => (ed_and (ed_isi (by kernel_rfl) (H.free 68) (by kernel_rfl) (H.free 65) PyProof.Rows.boot_bool (by decide) (ed_nm 0 (by kernel_rfl) rfl) hi rfl) (fun h => (ed_one (ed_cmp (ed_nm 0 (by kernel_rfl) rfl) (ed_nm 1 (by kernel_rfl) rfl) o_eqB)))))) ?_))
    simp
  | tup l hP hz =>
    have hi : (show String from dTy (.tup l)) ≠ "?" := (by show ("tuple" : String) ≠ "?"; decide)
    refine n1 [] _ ?_ rfl
    refine x_cons (xd_if (b := false || false) (etd_w (ewd_or (etd_val (ed_isi (by kernel_rfl) (H.free 68) (by kernel_rfl) (H.free 65) PyProof.Rows.boot_bool (by decide) (ed_nm 1 (by kernel_rfl) rfl) hi rfl)) (fun h => (ewd_or1 (etd_val (ed_isi (by kernel_rfl) (H.free 68) (by kernel_rfl) (H.free 65) PyProof.Rows.boot_bool (by decide) (ed_nm 0 (by kernel_rfl) rfl) hi rfl)))))) (fun h => by cases h) fun _ => x_nil ?_)
    refine x_cons (xd_if (b := false) (etd_val (ed_isi2 (by kernel_rfl) (H.free 68) (by kernel_rfl) (H.free 67) PyProof.Rows.boot_int (by decide) (by kernel_rfl) (H.free 76) PyProof.Rows.boot_str (by decide) (ed_nm 1 (by kernel_rfl) rfl) hi ⟨false, false, rfl, rfl, rfl⟩)) (fun h => by cases h) fun _ => x_nil ?_)
    refine x_cons (xd_if (b := false || false) (etd_w (ewd_or (etd_cmp (ed_isi (by kernel_rfl) (H.free 68) (by kernel_rfl) (H.free 78) PyProof.Rows.boot_tuple (by decide) (ed_nm 1 (by kernel_rfl) rfl) hi rfl) (ed_isi (by kernel_rfl) (H.free 68) (by kernel_rfl) (H.free 78) PyProof.Rows.boot_tuple (by decide) (ed_nm 0 (by kernel_rfl) rfl) hi rfl) o_neB) (fun h => (ewd_or1 (etd_cmp (ed_isi (by kernel_rfl) (H.free 68) (by kernel_rfl) (H.free 70) PyProof.Rows.boot_list (by decide) (ed_nm 1 (by kernel_rfl) rfl) hi rfl) (ed_isi (by kernel_rfl) (H.free 68) (by kernel_rfl) (H.free 70) PyProof.Rows.boot_list (by decide) (ed_nm 0 (by kernel_rfl) rfl) hi rfl) o_neB))))) (fun h => by cases h) fun _ => x_nil ?_)
    refine x_cons (xd_if (b := decide ((l.length : Int) ≠ (l.length : Int))) (etd_cmp (ed_len (xs := l) (by kernel_rfl) (H.free 69) (ed_nm 0 (by kernel_rfl) rfl) (by exact rfl)) (ed_len (xs := l) (by kernel_rfl) (H.free 69) (ed_nm 1 (by kernel_rfl) rfl) (by exact rfl)) o_ne) (fun h => by simp at h) fun _ => x_nil ?_)
    refine x_one (x_ret (Ed.ev (d := .bl ((l.map fun _ => true).all id)) (ed_cmp ed_bl (EdN.ed (EdN.is (edn_lcm nd [("_law_one", 2), ("_law_other", 3)] (by kernel_rfl) (ys := l) (enc := fun x => .tup [x, x]) (f := fun _ => .bl true) (EdI.is (edi_zip2 (by kernel_rfl) (H.free 79) (ed_nm 0 (by kernel_rfl) rfl) (ed_nm 1 (by kernel_rfl) rfl) (by exact rfl) (by exact rfl) rfl) (zp2_self l)) hz (fun y hy => ⟨_, _, (by simp), (gd_tup (gds_cons (gd_nm nd 2 (by kernel_rfl)) (gds_cons (gd_nm nd 3 (by kernel_rfl)) gds_nil))), (ed_call (F.resolve_left fun h => h y (hP y hy)) (hr.mono (by omega)) (by kernel_rfl) (eda_cons (ed_nm 2 (by kernel_rfl) rfl) (eda_cons (ed_nm 3 (by kernel_rfl) rfl) eda_nil)) ⟨y, hP y hy, rfl, rfl⟩)⟩)) (show _ = (l.map fun _ => true).map Dat.bl by simp))) o_ninF) ?_))
    simp
  | lst l hP hz =>
    have hi : (show String from dTy (.lst l)) ≠ "?" := (by show ("list" : String) ≠ "?"; decide)
    refine n1 [] _ ?_ rfl
    refine x_cons (xd_if (b := false || false) (etd_w (ewd_or (etd_val (ed_isi (by kernel_rfl) (H.free 68) (by kernel_rfl) (H.free 65) PyProof.Rows.boot_bool (by decide) (ed_nm 1 (by kernel_rfl) rfl) hi rfl)) (fun h => (ewd_or1 (etd_val (ed_isi (by kernel_rfl) (H.free 68) (by kernel_rfl) (H.free 65) PyProof.Rows.boot_bool (by decide) (ed_nm 0 (by kernel_rfl) rfl) hi rfl)))))) (fun h => by cases h) fun _ => x_nil ?_)
    refine x_cons (xd_if (b := false) (etd_val (ed_isi2 (by kernel_rfl) (H.free 68) (by kernel_rfl) (H.free 67) PyProof.Rows.boot_int (by decide) (by kernel_rfl) (H.free 76) PyProof.Rows.boot_str (by decide) (ed_nm 1 (by kernel_rfl) rfl) hi ⟨false, false, rfl, rfl, rfl⟩)) (fun h => by cases h) fun _ => x_nil ?_)
    refine x_cons (xd_if (b := false || false) (etd_w (ewd_or (etd_cmp (ed_isi (by kernel_rfl) (H.free 68) (by kernel_rfl) (H.free 78) PyProof.Rows.boot_tuple (by decide) (ed_nm 1 (by kernel_rfl) rfl) hi rfl) (ed_isi (by kernel_rfl) (H.free 68) (by kernel_rfl) (H.free 78) PyProof.Rows.boot_tuple (by decide) (ed_nm 0 (by kernel_rfl) rfl) hi rfl) o_neB) (fun h => (ewd_or1 (etd_cmp (ed_isi (by kernel_rfl) (H.free 68) (by kernel_rfl) (H.free 70) PyProof.Rows.boot_list (by decide) (ed_nm 1 (by kernel_rfl) rfl) hi rfl) (ed_isi (by kernel_rfl) (H.free 68) (by kernel_rfl) (H.free 70) PyProof.Rows.boot_list (by decide) (ed_nm 0 (by kernel_rfl) rfl) hi rfl) o_neB))))) (fun h => by cases h) fun _ => x_nil ?_)
    refine x_cons (xd_if (b := decide ((l.length : Int) ≠ (l.length : Int))) (etd_cmp (ed_len (xs := l) (by kernel_rfl) (H.free 69) (ed_nm 0 (by kernel_rfl) rfl) (by exact rfl)) (ed_len (xs := l) (by kernel_rfl) (H.free 69) (ed_nm 1 (by kernel_rfl) rfl) (by exact rfl)) o_ne) (fun h => by simp at h) fun _ => x_nil ?_)
    refine x_one (x_ret (Ed.ev (d := .bl ((l.map fun _ => true).all id)) (ed_cmp ed_bl (EdN.ed (EdN.is (edn_lcm nd [("_law_one", 2), ("_law_other", 3)] (by kernel_rfl) (ys := l) (enc := fun x => .tup [x, x]) (f := fun _ => .bl true) (EdI.is (edi_zip2 (by kernel_rfl) (H.free 79) (ed_nm 0 (by kernel_rfl) rfl) (ed_nm 1 (by kernel_rfl) rfl) (by exact rfl) (by exact rfl) rfl) (zp2_self l)) hz (fun y hy => ⟨_, _, (by simp), (gd_tup (gds_cons (gd_nm nd 2 (by kernel_rfl)) (gds_cons (gd_nm nd 3 (by kernel_rfl)) gds_nil))), (ed_call (F.resolve_left fun h => h y (hP y hy)) (hr.mono (by omega)) (by kernel_rfl) (eda_cons (ed_nm 2 (by kernel_rfl) rfl) (eda_cons (ed_nm 3 (by kernel_rfl) rfl) eda_nil)) ⟨y, hP y hy, rfl, rfl⟩)⟩)) (show _ = (l.map fun _ => true).map Dat.bl by simp))) o_ninF) ?_))
    simp
abbrev P0 : Dat → Prop := Up fun _ => False
abbrev P1 : Dat → Prop := Up P0
abbrev P2 : Dat → Prop := Up P1
theorem ok_same3 {G : Gc} (H : Head G) : HasF G "_law_same" 3 2 (PureSp 2 (R_same P2)) := ok__law_same H 2 _ (.inr (ok__law_same H 1 _ (.inr (ok__law_same H 0 _ (.inl fun _ h => h)))))
abbrev N__law_from : List Str := ["_law_value_here", "_law_low"]
theorem sc__law_from : FnScope N__law_from ["_law_value_here", "_law_low"] (defScope s__law_from) := ⟨rfl, rfl, rfl, by decide +kernel, rfl, by decide +kernel, by decide +kernel⟩
def R__law_from (ds : List Dat) (d : Dat) : Prop := ∃ i j : Int, ds = [.int i, .int j] ∧ d = .bl (decide (j ≤ i))
theorem ok__law_from {G : Gc} (H : Head G) : HasF G "_law_from" 1 2 (PureSp 2 R__law_from) := by
  refine H.pure (st := s__law_from) (ps := ["_law_value_here", "_law_low"]) 42 34 (by kernel_rfl) (by kernel_rfl) sc__law_from (fun _ _ _ _ _ _ us hl => match us, hl with | [_, _], _ => rfl) fun A hr ds d hl hR => ?_
  have nd := sc__law_from.nd
  obtain ⟨i, j, rfl, rfl⟩ := hR
  have hi : (show String from dTy (.int i)) ≠ "?" := (by show ("int" : String) ≠ "?"; decide)
  refine x_one (x_ret (Ed.ev (d := .bl (true && (!false && decide (j ≤ i)))) (ed_and (ed_isi (by kernel_rfl) (H.free 68) (by kernel_rfl) (H.free 67) PyProof.Rows.boot_int (by decide) (ed_nm 0 (by kernel_rfl) rfl) hi rfl) (fun h => (ed_and (ed_not (ed_isi (by kernel_rfl) (H.free 68) (by kernel_rfl) (H.free 65) PyProof.Rows.boot_bool (by decide) (ed_nm 0 (by kernel_rfl) rfl) hi rfl)) (fun h => (ed_one (ed_cmp (ed_nm 0 (by kernel_rfl) rfl) (ed_nm 1 (by kernel_rfl) rfl) o_ge)))))) ?_))
  simp
end Kb
namespace Kb
open PySem PySem.Spec PyProof.Rows L2
abbrev N__law_key : List Str := ["_law_rule", "_law_job"]
theorem sc__law_key : FnScope N__law_key ["_law_rule", "_law_job"] (defScope s__law_key) := ⟨rfl, rfl, rfl, by decide +kernel, rfl, by decide +kernel, by decide +kernel⟩
theorem ok__law_key {G : Gc} (H : Head G) : HasF G "_law_key" 1 2 (PureSp 2 R_key) := by
  refine H.pure (st := s__law_key) (ps := ["_law_rule", "_law_job"]) 53 45 (by kernel_rfl) (by kernel_rfl) sc__law_key (fun _ _ _ _ _ _ us hl => match us, hl with | [_, _], _ => rfl) fun A hr ds d hl hR => ?_
  have nd := sc__law_key.nd
  obtain ⟨rl, j, rfl, ho, hb, rfl⟩ := hR
  have g := getD_get (d := ((0, 0) : Int × Int)) ho.k
  have b := hb _ (List.mem_of_getElem? g)
  exact x_one (x_ret (Ed.ev (ed_op (ed_op (ed_ix (ed_ix (ed_nm 0 (by kernel_rfl) rfl) (ed_ix (ed_nm 1 (by kernel_rfl) rfl) ed_int (.tup rfl)) (ixt_nat (get_map g))) ed_int (.tup rfl)) (ed_ix (ed_nm 1 (by kernel_rfl) rfl) ed_int (.tup rfl)) (o_mul (cm b.1 ho.t.2))) (ed_op (ed_ix (ed_ix (ed_nm 0 (by kernel_rfl) rfl) (ed_ix (ed_nm 1 (by kernel_rfl) rfl) ed_int (.tup rfl)) (ixt_nat (get_map g))) ed_int (.tup rfl)) (ed_ix (ed_nm 1 (by kernel_rfl) rfl) ed_int (.tup rfl)) (o_mul (cm b.2 ho.u.2))) o_add) rfl))
/-! the law's values -/
def maxF : List Int → Int
  | [] => 0
  | n :: ns => ns.foldl max n
theorem maxF_is {ns : List Int} {m : Int} (h : m ∈ ns) (h2 : ∀ y ∈ ns, y ≤ m) : maxF ns = m := by
  cases ns with
  | nil => cases h
  | cons n ns =>
    show ns.foldl max n = m
    have key : ∀ (ns : List Int) (n : Int), ns.foldl max n ∈ n :: ns ∧ ∀ y ∈ n :: ns, y ≤ ns.foldl max n := by
      intro ns
      induction ns with
      | nil => exact fun n => ⟨by simp, fun y hy => by simp at hy; rw [hy]; exact Int.le_refl _⟩
      | cons k r ih =>
        intro n
        obtain ⟨h1, h2⟩ := ih (max n k)
        rw [List.foldl_cons]
        refine ⟨?_, fun y hy => ?_⟩
        · rcases List.mem_cons.mp h1 with z | z
          · rw [z]
            by_cases hnk : n ≤ k
            · rw [Int.max_eq_right hnk]; simp
            · rw [Int.max_eq_left (by omega)]; simp
          · exact List.mem_cons_of_mem _ (List.mem_cons_of_mem _ z)
        · have h3 := h2 (max n k) List.mem_cons_self
          rcases List.mem_cons.mp hy with z | z
          · rw [z]; exact Int.le_trans (Int.le_max_left _ _) h3
          · rcases List.mem_cons.mp z with z | z
            · rw [z]; exact Int.le_trans (Int.le_max_right _ _) h3
            · exact h2 y (List.mem_cons_of_mem _ z)
    obtain ⟨h3, h4⟩ := key ns n
    exact Int.le_antisymm (h2 _ h3) (h4 m h)
def cost1F (l : List (Int × Int)) (e u : Int) : List Int := l.map fun p => p.1 * e + p.2 * u
def costVF (m : Ms) (j : Jb) (e : Int) : Int := match m with
  | .late ws => if j.u < e then ws.getD j.k 0 else 0
  | .sum es => maxF (cost1F (es.getD j.k []) e j.u)
  | .max es => maxF (cost1F (es.getD j.k []) e j.u)
abbrev N__law_cost : List Str := ["_law_measure", "_law_job", "_law_end", "_law_entry", "_law_u", "_law_v"]
theorem sc__law_cost : FnScope N__law_cost ["_law_measure", "_law_job", "_law_end"] (defScope s__law_cost) := ⟨rfl, rfl, rfl, by decide +kernel, rfl, by decide +kernel, by decide +kernel⟩
def R__law_cost (ds : List Dat) (d : Dat) : Prop := ∃ (m : Ms) (j : Jb) (e : Int), ds = [m.enc, j.enc, .int e] ∧ m.Ok ∧ j.Ok m.len ∧ Bd 1000 e ∧ d = .int (costVF m j e)
theorem ok__law_cost {G : Gc} (H : Head G) : HasF G "_law_cost" 1 3 (PureSp 3 R__law_cost) := by
  refine H.pure (st := s__law_cost) (ps := ["_law_measure", "_law_job", "_law_end"]) 51 43 (by kernel_rfl) (by kernel_rfl) sc__law_cost (fun _ _ _ _ _ _ us hl => match us, hl with | [_, _, _], _ => rfl) fun A hr ds d hl hR => ?_
  have nd := sc__law_cost.nd
  obtain ⟨m, j, e, rfl, ho, oj, be, rfl⟩ := hR
  have main : ∀ l, Ent m j.k l → Ex (G.sg A N__law_cost (defScope s__law_cost)) wd0 ((defBody s__law_cost).drop 2) [.dat m.enc, .dat j.enc, .dat (.int e), .dat (eE l), .no, .no] 0 { nx := fun _ _ => Dat.int (maxF (cost1F l e j.u)) = .non, rt := fun _ d' => d' = .int (maxF (cost1F l e j.u)) } := fun l hl => by
    have ok := hl.ok ho
    have hne : cost1F l e j.u ≠ [] := by unfold cost1F; simpa using ok.1
    refine x_one (x_ret (Ed.ev (d := .int (maxF (cost1F l e j.u))) (ed_blt (by kernel_rfl) (H.free 71) PyProof.Rows.boot_max (eda_cons (EdN.ed (EdN.is (edn_lcm nd [("_law_u", 4), ("_law_v", 5)] (by kernel_rfl) (ys := l) (enc := pI) (edi_tup (ed_nm 3 (by kernel_rfl) rfl)) (by have := ok.2.1; omega) (fun y hy => ⟨_, _, (by simp), (gd_tup (gds_cons (gd_nm nd 4 (by kernel_rfl)) (gds_cons (gd_nm nd 5 (by kernel_rfl)) gds_nil))), (ed_op (ed_op (ed_nm 4 (by kernel_rfl) rfl) (ed_nm 2 (by kernel_rfl) rfl) (o_mul (cm (ok.2.2 y hy).1 be))) (ed_op (ed_nm 5 (by kernel_rfl) rfl) (ed_ix (ed_nm 1 (by kernel_rfl) rfl) ed_int (.tup rfl)) (o_mul (cm (ok.2.2 y hy).2 oj.u.2))) o_add)⟩)) (show _ = (cost1F l e j.u).map Dat.int by simp [cost1F]))) eda_nil) (fun K k => c_max hne fun v h1 h2 => by rw [maxF_is h1 h2] at k; exact k)) rfl))
  cases m with
  | late ws =>
    refine x_cons (xd_set nd 3 (by kernel_rfl) (ed_ix (ed_ix (ed_nm 0 (by kernel_rfl) rfl) ed_int (.tup rfl)) (ed_ix (ed_nm 1 (by kernel_rfl) rfl) ed_int (.tup rfl)) (ixt_nat (get_map (getD_get (d := 0) (show j.k < ws.length from oj.k))))) ?_)
    refine x_cons (xd_if (etd_cmp (ed_way (m := .late ws) (ed_nm 0 (by kernel_rfl) rfl)) ed_str o_eqS) (fun h => ?_) fun h => absurd (show decide (("late" : Str) = "late") = false from h) (by decide))
    refine x_one (x_ret (Ed.ev (d := .int (costVF (.late ws) j e)) (ed_if (etd_cmp (ed_nm 2 (by kernel_rfl) rfl) (ed_ix (ed_nm 1 (by kernel_rfl) rfl) ed_int (.tup rfl)) o_gt) (fun h => Ed.is (ed_nm 3 (by kernel_rfl) rfl) ?_) (fun h => Ed.is ed_int ?_)) rfl))
    · have h2 : j.u < e := by simpa using h
      simp [costVF, h2]
    · have h2 : ¬ j.u < e := by simpa using h
      simp [costVF, h2]
  | sum es =>
    have g := getD_get (d := []) (show j.k < es.length from oj.k)
    refine x_cons (xd_set nd 3 (by kernel_rfl) (ed_ix (ed_ix (ed_nm 0 (by kernel_rfl) rfl) ed_int (.tup rfl)) (ed_ix (ed_nm 1 (by kernel_rfl) rfl) ed_int (.tup rfl)) (ixt_nat (get_map g))) ?_)
    exact x_cons (xd_if (etd_cmp (ed_way (m := .sum es) (ed_nm 0 (by kernel_rfl) rfl)) ed_str o_eqS) (fun h => absurd (show decide (("sum" : Str) = "late") = true from h) (by decide)) fun h => x_nil (main _ (.sum g)))
  | max es =>
    have g := getD_get (d := []) (show j.k < es.length from oj.k)
    refine x_cons (xd_set nd 3 (by kernel_rfl) (ed_ix (ed_ix (ed_nm 0 (by kernel_rfl) rfl) ed_int (.tup rfl)) (ed_ix (ed_nm 1 (by kernel_rfl) rfl) ed_int (.tup rfl)) (ixt_nat (get_map g))) ?_)
    exact x_cons (xd_if (etd_cmp (ed_way (m := .max es) (ed_nm 0 (by kernel_rfl) rfl)) ed_str o_eqS) (fun h => absurd (show decide (("max" : Str) = "late") = true from h) (by decide)) fun h => x_nil (main _ (.max g)))
/-- two jobs, one behind the other -/
def valF (m : Ms) (x y : Jb) (s : Int) : Int := match m with
  | .max _ => max (costVF m x (s + x.t)) (costVF m y (s + x.t + y.t))
  | _ => costVF m x (s + x.t) + costVF m y (s + x.t + y.t)
abbrev N__law_value : List Str := ["_law_measure", "_law_jobs", "_law_start", "_law_hour", "_law_costs", "_law_job"]
theorem sc__law_value : FnScope N__law_value ["_law_measure", "_law_jobs", "_law_start"] (defScope s__law_value) := ⟨rfl, rfl, rfl, by decide +kernel, rfl, by decide +kernel, by decide +kernel⟩
def R__law_value (ds : List Dat) (d : Dat) : Prop := ∃ (m : Ms) (x y : Jb) (s : Int), ds = [m.enc, .lst [x.enc, y.enc], .int s] ∧ m.Ok ∧ x.Ok m.len ∧ y.Ok m.len ∧ Bd 900 s ∧ d = .int (valF m x y s)
theorem ok__law_value {G : Gc} (H : Head G) : HasF G "_law_value" 2 3 (PureSp 3 R__law_value) := by
  refine H.pure (st := s__law_value) (ps := ["_law_measure", "_law_jobs", "_law_start"]) 52 44 (by kernel_rfl) (by kernel_rfl) sc__law_value (fun _ _ _ _ _ _ us hl => match us, hl with | [_, _, _], _ => rfl) fun A hr ds d hl hR => ?_
  have nd := sc__law_value.nd
  obtain ⟨m, x, y, s, rfl, ho, ox, oy, bs, rfl⟩ := hR
  have b1 : Bd 901 (s + x.t) := bd_add bs (ox.t.2.mono (by decide))
  have b2 : Bd 902 (s + x.t + y.t) := bd_add b1 (oy.t.2.mono (by decide))
  refine x_cons (x_par2 nd 3 4 ⟨rfl, rfl⟩ ⟨rfl, rfl⟩ (by decide) (by simp [startE]) (by kernel_rfl) (era_dat (Ed.ev (ed_nm 2 (by kernel_rfl) rfl) (era_new (EdN.ev (edn_lst eda_nil) (era_nil ⟨rfl, ?_⟩))))))
  let hs : List Int := [s, s + x.t, s + x.t + y.t]
  let cs : List Int := [costVF m x (s + x.t), costVF m y (s + x.t + y.t)]
  refine x_cons (x_for (EdI.ev (edi_lst (ed_nm 1 (by kernel_rfl) rfl)) ⟨fun i n ρ => n = 0 ∧ ∃ a, ρ = [.dat m.enc, .dat (.lst [x.enc, y.enc]), .dat (.int s), .dat (.int (hs.getD i 0)), .own ((cs.take i).map .int), a], ⟨rfl, .no, rfl⟩, fun i z n2 ρ2 hz ⟨e1, a, e2⟩ => ?_, fun n2 ρ2 ⟨e1, a, e2⟩ => ?_⟩))
  · subst e1 e2
    match i, hz with
    | 0, hz =>
      cases hz
      exact ⟨_, _, gd_nm nd 5 (by kernel_rfl), x_cons (xd_set nd 3 (by kernel_rfl) (ed_op (ed_nm 3 (by kernel_rfl) rfl) (ed_ix (ed_nm 5 (by kernel_rfl) rfl) ed_int (.tup rfl)) o_add) (x_one (x_app 4 (by kernel_rfl) rfl (by simp [cs]) (Ed.ev (ed_call (ok__law_cost H) (hr.mono (by decide)) (by kernel_rfl) (eda_cons (ed_nm 0 (by kernel_rfl) rfl) (eda_cons (ed_nm 5 (by kernel_rfl) rfl) (eda_cons (ed_nm 3 (by kernel_rfl) rfl) eda_nil))) ⟨m, x, s + x.t, rfl, ho, ox, b1.mono (by decide), rfl⟩) ⟨rfl, .dat x.enc, rfl⟩))))⟩
    | 1, hz =>
      cases hz
      exact ⟨_, _, gd_nm nd 5 (by kernel_rfl), x_cons (xd_set nd 3 (by kernel_rfl) (ed_op (ed_nm 3 (by kernel_rfl) rfl) (ed_ix (ed_nm 5 (by kernel_rfl) rfl) ed_int (.tup rfl)) o_add) (x_one (x_app 4 (by kernel_rfl) rfl (by simp [cs]) (Ed.ev (ed_call (ok__law_cost H) (hr.mono (by decide)) (by kernel_rfl) (eda_cons (ed_nm 0 (by kernel_rfl) rfl) (eda_cons (ed_nm 5 (by kernel_rfl) rfl) (eda_cons (ed_nm 3 (by kernel_rfl) rfl) eda_nil))) ⟨m, y, s + x.t + y.t, rfl, ho, oy, b2.mono (by decide), rfl⟩) ⟨rfl, .dat y.enc, rfl⟩))))⟩
    | i + 2, hz => cases hz
  · subst e1 e2
    refine x_freeze (i := 4) rfl (x_one (x_ret (Ed.ev (d := .int (valF m x y s)) (ed_if (etd_cmp (ed_way (m := m) (ed_nm 0 (by kernel_rfl) rfl)) ed_str o_eqS) (fun h => ?_) (fun h => ?_)) rfl)))
    · cases m with
      | late ws => exact absurd (show decide (("late" : Str) = "max") = true from h) (by decide)
      | sum es => exact absurd (show decide (("sum" : Str) = "max") = true from h) (by decide)
      | max es => exact ed_blt (by kernel_rfl) (H.free 71) PyProof.Rows.boot_max (eda_cons (ed_nm 4 (by kernel_rfl) rfl) eda_nil) (fun K k => c_max (ns := cs) (by simp [cs]) fun v h1 h2 => by
          have e : v = max (costVF (.max es) x (s + x.t)) (costVF (.max es) y (s + x.t + y.t)) := by
            have := maxF_is h1 h2
            rw [← this]
            rfl
          rw [e]
          exact k)
    · have e : valF m x y s = cs.sum := by
        cases m with
        | late ws => simp [valF, cs]
        | sum es => simp [valF, cs]
        | max es => exact absurd (show decide (("max" : Str) = "max") = false from h) (by decide)
      rw [e]
      exact ed_blt (by kernel_rfl) (H.free 77) PyProof.Rows.boot_sum (eda_cons (ed_nm 4 (by kernel_rfl) rfl) eda_nil) (fun K k => c_sum (ns := cs) k)
abbrev N__law_sign : List Str := ["_law_measure", "_law_a", "_law_b", "_law_start", "_law_one", "_law_other"]
theorem sc__law_sign : FnScope N__law_sign ["_law_measure", "_law_a", "_law_b", "_law_start"] (defScope s__law_sign) := ⟨rfl, rfl, rfl, by decide +kernel, rfl, by decide +kernel, by decide +kernel⟩
def R__law_sign (ds : List Dat) (d : Dat) : Prop := ∃ (m : Ms) (x y : Jb) (s : Int), ds = [m.enc, x.enc, y.enc, .int s] ∧ m.Ok ∧ x.Ok m.len ∧ y.Ok m.len ∧ Bd 900 s ∧ d = .int (b2i (decide (valF m y x s < valF m x y s)) - b2i (decide (valF m x y s < valF m y x s)))
theorem ok__law_sign {G : Gc} (H : Head G) : HasF G "_law_sign" 3 4 (PureSp 4 R__law_sign) := by
  refine H.pure (st := s__law_sign) (ps := ["_law_measure", "_law_a", "_law_b", "_law_start"]) 54 46 (by kernel_rfl) (by kernel_rfl) sc__law_sign (fun _ _ _ _ _ _ us hl => match us, hl with | [_, _, _, _], _ => rfl) fun A hr ds d hl hR => ?_
  have nd := sc__law_sign.nd
  obtain ⟨m, x, y, s, rfl, ho, ox, oy, bs, rfl⟩ := hR
  refine x_cons (x_par2 nd 4 5 ⟨rfl, rfl⟩ ⟨rfl, rfl⟩ (by decide) (by simp [startE]) (by kernel_rfl) (era_dat (Ed.ev (ed_call (ok__law_value H) (hr.mono (by decide)) (by kernel_rfl) (eda_cons (ed_nm 0 (by kernel_rfl) rfl) (eda_cons (EdN.ed (edn_lst (eda_cons (ed_nm 1 (by kernel_rfl) rfl) (eda_cons (ed_nm 2 (by kernel_rfl) rfl) eda_nil)) (by simp))) (eda_cons (ed_nm 3 (by kernel_rfl) rfl) eda_nil))) ⟨m, x, y, s, rfl, ho, ox, oy, bs, rfl⟩) (era_dat (Ed.ev (ed_call (ok__law_value H) (hr.mono (by decide)) (by kernel_rfl) (eda_cons (ed_nm 0 (by kernel_rfl) rfl) (eda_cons (EdN.ed (edn_lst (eda_cons (ed_nm 2 (by kernel_rfl) rfl) (eda_cons (ed_nm 1 (by kernel_rfl) rfl) eda_nil)) (by simp))) (eda_cons (ed_nm 3 (by kernel_rfl) rfl) eda_nil))) ⟨m, y, x, s, rfl, ho, oy, ox, bs, rfl⟩) (era_nil ⟨rfl, ?_⟩))))))
  exact x_one (x_ret (Ed.ev (ed_op (ed_intB (by kernel_rfl) (H.free 67) (ed_cmp (ed_nm 4 (by kernel_rfl) rfl) (ed_nm 5 (by kernel_rfl) rfl) o_gt)) (ed_intB (by kernel_rfl) (H.free 67) (ed_cmp (ed_nm 4 (by kernel_rfl) rfl) (ed_nm 5 (by kernel_rfl) rfl) o_lt)) o_sub) rfl))
end Kb
namespace Kb
open PySem PySem.Spec PyProof.Rows L2
abbrev N__law_fits : List Str := ["_law_rule", "_law_sights", "_law_a", "_law_b", "_law_flag"]
theorem sc__law_fits : FnScope N__law_fits ["_law_rule", "_law_sights"] (defScope s__law_fits) := ⟨rfl, rfl, rfl, by decide +kernel, rfl, by decide +kernel, by decide +kernel⟩
theorem ok__law_fits {G : Gc} (H : Head G) : HasF G "_law_fits" 2 2 (PureSp 2 R_fits) := by
  refine H.pure (st := s__law_fits) (ps := ["_law_rule", "_law_sights"]) 61 53 (by kernel_rfl) (by kernel_rfl) sc__law_fits (fun _ _ _ _ _ _ us hl => match us, hl with | [_, _], _ => rfl) fun A hr ds d hl hR => ?_
  have nd := sc__law_fits.nd
  obtain ⟨rl, ss, rfl, ⟨hn, ho⟩, hb, rfl⟩ := hR
  refine x_one (x_ret (Ed.ev (d := .bl (decide (((ss.filter fun s => decide (keyF rl s.2 < keyF rl s.1 + 1)).map fun _ => (1 : Int)) = []))) (ed_cmp (EdN.ed (EdN.is (edn_lc nd [("_law_a", 2), ("_law_b", 3), ("_law_flag", 4)] (by kernel_rfl) (ys := ss) (enc := sE) (t := fun s => decide (keyF rl s.2 < keyF rl s.1 + 1)) (f := fun _ => Dat.int 1) (edi_tup (ed_nm 1 (by kernel_rfl) rfl)) (by omega) (fun y hy => ⟨_, _, (by simp), (gd_tup (gds_cons (gd_nm nd 2 (by kernel_rfl)) (gds_cons (gd_nm nd 3 (by kernel_rfl)) (gds_cons (gd_nm nd 4 (by kernel_rfl)) gds_nil)))), (etds_one (etd_cmp (ed_op (ed_call (ok__law_key H) (hr.mono (by decide)) (by kernel_rfl) (eda_cons (ed_nm 0 (by kernel_rfl) rfl) (eda_cons (ed_nm 2 (by kernel_rfl) rfl) eda_nil)) ⟨rl, y.1, rfl, (ho y hy).1, hb, rfl⟩) (ed_intB (by kernel_rfl) (H.free 67) (ed_nm 4 (by kernel_rfl) rfl)) o_add) (ed_call (ok__law_key H) (hr.mono (by decide)) (by kernel_rfl) (eda_cons (ed_nm 0 (by kernel_rfl) rfl) (eda_cons (ed_nm 3 (by kernel_rfl) rfl) eda_nil)) ⟨rl, y.2, rfl, (ho y hy).2, hb, rfl⟩) o_gt)), fun ht => ed_int⟩)) (show _ = ((ss.filter fun s => decide (keyF rl s.2 < keyF rl s.1 + 1)).map fun _ => (1 : Int)).map Dat.int by simp))) (EdN.ed (edn_lst eda_nil)) (o_eqI (ys := []) hr)) ?_))
  unfold fitsF
  congr 1
  rw [Bool.eq_iff_iff]
  simp
abbrev N__law_is_rule : List Str := ["_law_kinds", "_law_value_here", "_law_one", "_law_a"]
theorem sc__law_is_rule : FnScope N__law_is_rule ["_law_kinds", "_law_value_here"] (defScope s__law_is_rule) := ⟨rfl, rfl, rfl, by decide +kernel, rfl, by decide +kernel, by decide +kernel⟩
def R__law_is_rule (ds : List Dat) (d : Dat) : Prop := ∃ rl : List (Int × Int), ds = [.int (rl.length : Nat), .tup (rl.map pI)] ∧ d = .bl true
theorem ok__law_is_rule {G : Gc} (H : Head G) : HasF G "_law_is_rule" 1 2 (PureSp 2 R__law_is_rule) := by
  refine H.pure (st := s__law_is_rule) (ps := ["_law_kinds", "_law_value_here"]) 60 52 (by kernel_rfl) (by kernel_rfl) sc__law_is_rule (fun _ _ _ _ _ _ us hl => match us, hl with | [_, _], _ => rfl) fun A hr ds d hl hR => ?_
  have nd := sc__law_is_rule.nd
  obtain ⟨rl, rfl, rfl⟩ := hR
  have hT : ∀ l, dTy (.tup l) ≠ "?" := fun l => (show ("tuple" : String) ≠ "?" by decide)
  have hI : ∀ l, dTy (.int l) ≠ "?" := fun l => (show ("int" : String) ≠ "?" by decide)
  refine x_cons (xd_if (b := !true || decide (((rl.map pI).length : Int) ≠ (rl.length : Nat))) (etd_w (ewd_or (etd_not (etd_val (ed_isi (by kernel_rfl) (H.free 68) (by kernel_rfl) (H.free 78) PyProof.Rows.boot_tuple (by decide) (ed_nm 1 (by kernel_rfl) rfl) (hT _) rfl))) (fun h => (ewd_or1 (etd_cmp (ed_len (xs := rl.map pI) (by kernel_rfl) (H.free 69) (ed_nm 1 (by kernel_rfl) rfl) (by exact rfl)) (ed_nm 0 (by kernel_rfl) rfl) o_ne))))) (fun h => by simp at h) fun _ => x_nil ?_)
  refine x_cons (x_for (EdI.ev (edi_tup (ed_nm 1 (by kernel_rfl) rfl)) ⟨fun i n ρ => n = 0 ∧ ∃ a, ρ = [.dat (.int (rl.length : Nat)), .dat (.tup (rl.map pI)), a, .no], ⟨rfl, .no, rfl⟩, fun i z n2 ρ2 hz ⟨e1, a, e2⟩ => ?_, fun n2 ρ2 ⟨e1, a, e2⟩ => ?_⟩))
  · subst e1 e2
    rw [List.getElem?_map] at hz
    cases hq : rl[i]? with
    | none => rw [hq] at hz; cases hz
    | some p =>
      rw [hq] at hz
      cases hz
      refine ⟨_, _, gd_nm nd 2 (by kernel_rfl), x_cons (xd_if (b := !true || decide (((2 : Nat) : Int) ≠ 2)) (etd_w (ewd_or (etd_not (etd_val (ed_isi (by kernel_rfl) (H.free 68) (by kernel_rfl) (H.free 78) PyProof.Rows.boot_tuple (by decide) (ed_nm 2 (by kernel_rfl) rfl) (hT _) rfl))) (fun h => (ewd_or1 (etd_cmp (ed_len (xs := [.int p.1, .int p.2]) (by kernel_rfl) (H.free 69) (ed_nm 2 (by kernel_rfl) rfl) (by exact rfl)) ed_int o_ne))))) (fun h => by simp at h) fun _ => x_nil ?_)⟩
      refine x_one (xd_if (b := !([true, true].all id)) (etd_cmp ed_bl (EdN.ed (EdN.is (edn_lcm nd [("_law_a", 3)] (by kernel_rfl) (ys := [p.1, p.2]) (enc := .int) (f := fun _ => .bl (true && !false)) (edi_tup (ed_nm 2 (by kernel_rfl) rfl)) (by simp) (fun y hy => ⟨_, _, (by simp), (gd_nm nd 3 (by kernel_rfl)), (ed_and (ed_isi (by kernel_rfl) (H.free 68) (by kernel_rfl) (H.free 67) PyProof.Rows.boot_int (by decide) (ed_nm 3 (by kernel_rfl) rfl) (hI _) rfl) (fun h => (ed_one (ed_not (ed_isi (by kernel_rfl) (H.free 68) (by kernel_rfl) (H.free 65) PyProof.Rows.boot_bool (by decide) (ed_nm 3 (by kernel_rfl) rfl) (hI _) rfl)))))⟩)) (show _ = [true, true].map Dat.bl from rfl))) o_inF) (fun h => by cases h) fun _ => x_nil ⟨rfl, .dat (pI p), rfl⟩)
  · subst e1 e2
    exact x_one (x_ret (Ed.ev ed_bl rfl))
end Kb
namespace Kb
open PySem PySem.Spec PyProof.Rows L2
def jAt (j : Jb) (pl : Nat) : Int := if pl = 0 then j.t else j.u
def colA (ss : List Sg2) (v : List Int) (k pl : Nat) : Int := (((v.zip ss).filter fun p => decide ((p.2.1.k : Int) = (k : Int))).map fun p => p.1 * jAt p.2.1 pl).sum
def colB (ss : List Sg2) (v : List Int) (k pl : Nat) : Int := (((v.zip ss).filter fun p => decide ((p.2.2.k : Int) = (k : Int))).map fun p => p.1 * jAt p.2.2 pl).sum
structure LQ (K : Nat) (ss : List Sg2) (v : List Int) : Prop where
  len : v.length = ss.length
  nn : ∀ x ∈ v, 0 ≤ x
  ps : ∃ x ∈ v, 0 < x
  bal : ∀ k, k < K → ∀ pl, pl < 2 → colA ss v k pl = colB ss v k pl
theorem jb_ix {j : Jb} {pl : Nat} (h : pl < 2) : Ix j.enc ((pl : Int) + 1) (.int (jAt j pl)) := by
  have : pl = 0 ∨ pl = 1 := by omega
  rcases this with rfl | rfl
  · exact .tup rfl
  · exact .tup rfl
theorem jAt_bd {K : Nat} {j : Jb} (o : j.Ok K) (pl : Nat) : Bd 69 (jAt j pl) := by
  unfold jAt
  split
  · exact o.t.2
  · exact o.u.2
theorem zmem {v : List Int} {ss : List Sg2} {p : Int × Sg2} (h : p ∈ v.zip ss) : p.1 ∈ v ∧ p.2 ∈ ss := ⟨(List.of_mem_zip h).1, (List.of_mem_zip h).2⟩
theorem zip_ex {v : List Int} {ss : List Sg2} (h : v.length = ss.length) (e : ∃ x ∈ v, 0 < x) : (((v.zip ss).filter fun p => decide (0 < p.1) && true).map fun _ => (1 : Int)) ≠ [] := by
  obtain ⟨x, hx, h0⟩ := e
  obtain ⟨i, hi, rfl⟩ := List.getElem_of_mem hx
  have h2 : (v[i], ss[i]'(by omega)) ∈ v.zip ss := by
    have := List.getElem_mem (l := v.zip ss) (n := i) (by rw [List.length_zip]; omega)
    rwa [List.getElem_zip] at this
  intro q
  rw [List.map_eq_nil_iff] at q
  have : (v[i], ss[i]'(by omega)) ∈ (v.zip ss).filter fun p => decide (0 < p.1) && true := List.mem_filter.mpr ⟨h2, by simp [h0]⟩
  rw [q] at this
  cases this
abbrev N__law_is_quarrel : List Str := ["_law_kinds", "_law_sights", "_law_value_here", "_law_kind", "_law_place", "_law_first_here", "_law_second", "_law_one", "_law_sight"]
theorem sc__law_is_quarrel : FnScope N__law_is_quarrel ["_law_kinds", "_law_sights", "_law_value_here"] (defScope s__law_is_quarrel) := ⟨rfl, rfl, rfl, by decide +kernel, rfl, by decide +kernel, by decide +kernel⟩
def R__law_is_quarrel (ds : List Dat) (d : Dat) : Prop := ∃ (K : Nat) (ss : List Sg2) (v : List Int), ds = [.int (K : Nat), .tup (ss.map sE), tI v] ∧ okS K ss ∧ K ≤ 100 ∧ (∀ x ∈ v, Bd 20000 x) ∧ LQ K ss v ∧ d = .bl true
theorem ok__law_is_quarrel {G : Gc} (H : Head G) : HasF G "_law_is_quarrel" 2 3 (PureSp 3 R__law_is_quarrel) := by
  refine H.pure (st := s__law_is_quarrel) (ps := ["_law_kinds", "_law_sights", "_law_value_here"]) 62 54 (by kernel_rfl) (by kernel_rfl) sc__law_is_quarrel (fun _ _ _ _ _ _ us hl => match us, hl with | [_, _, _], _ => rfl) fun A hr ds d hl hR => ?_
  have nd := sc__law_is_quarrel.nd
  obtain ⟨K, ss, v, rfl, ⟨hn, ho⟩, hK, hv, lq, rfl⟩ := hR
  have hT : ∀ l, dTy (.tup l) ≠ "?" := fun l => (show ("tuple" : String) ≠ "?" by decide)
  have hlen := lq.len
  have hz : (v.zip ss).length ≤ 1000 := by rw [List.length_zip]; omega
  refine x_cons (xd_if (b := !true || decide (((v.map Dat.int).length : Int) ≠ ((ss.map sE).length : Int))) (etd_w (ewd_or (etd_not (etd_val (ed_isi (by kernel_rfl) (H.free 68) (by kernel_rfl) (H.free 78) PyProof.Rows.boot_tuple (by decide) (ed_nm 2 (by kernel_rfl) rfl) (hT _) rfl))) (fun h => (ewd_or1 (etd_cmp (ed_len (xs := v.map Dat.int) (by kernel_rfl) (H.free 69) (ed_nm 2 (by kernel_rfl) rfl) (by exact rfl)) (ed_len (xs := ss.map sE) (by kernel_rfl) (H.free 69) (ed_nm 1 (by kernel_rfl) rfl) (by exact rfl)) o_ne))))) (fun h => absurd h (by simp [hlen])) fun _ => x_nil ?_)
  refine x_cons (xd_if (b := !((v.map fun x => decide (0 ≤ x)).all id)) (etd_cmp ed_bl (EdN.ed (EdN.is (edn_lcm nd [("_law_one", 7)] (by kernel_rfl) (ys := v) (enc := .int) (edi_tup (ed_nm 2 (by kernel_rfl) rfl)) (by omega) (fun y hy => ⟨_, _, (by simp), (gd_nm nd 7 (by kernel_rfl)), (ed_call (ok__law_from H) (hr.mono (by decide)) (by kernel_rfl) (eda_cons (ed_nm 7 (by kernel_rfl) rfl) (eda_cons ed_int eda_nil)) ⟨y, 0, rfl, rfl⟩)⟩)) (show _ = (v.map fun x => decide (0 ≤ x)).map Dat.bl by simp))) o_inF) (fun h => absurd h (by simp; exact lq.nn)) fun _ => x_nil ?_)
  refine x_cons (xd_if (b := decide ((((v.zip ss).filter fun p => decide (0 < p.1) && true).map fun _ => (1 : Int)) = [])) (etd_cmp (EdN.ed (EdN.is (edn_lc nd [("_law_one", 7), ("_law_sight", 8)] (by kernel_rfl) (ys := v.zip ss) (enc := fun p => .tup [.int p.1, sE p.2]) (t := fun p => decide (0 < p.1) && true) (f := fun _ => Dat.int 1) (EdI.is (edi_zip2 (by kernel_rfl) (H.free 79) (ed_nm 2 (by kernel_rfl) rfl) (ed_nm 1 (by kernel_rfl) rfl) (by exact rfl) (by exact rfl) (by simpa using hlen)) (zp2_gen _ _ v ss)) hz (fun y hy => ⟨_, _, (by simp), (gd_tup (gds_cons (gd_nm nd 7 (by kernel_rfl)) (gds_cons (gd_nm nd 8 (by kernel_rfl)) gds_nil))), (etds_one (etd_w (ewd_and (etd_cmp (ed_nm 7 (by kernel_rfl) rfl) ed_int o_gt) (fun h => (ewd_and1 (etd_val (ed_ix (ed_nm 8 (by kernel_rfl) rfl) ed_int (.tup rfl)))))))), fun ht => ed_int⟩)) (show _ = (((v.zip ss).filter fun p => decide (0 < p.1) && true).map fun _ => (1 : Int)).map Dat.int by simp))) (EdN.ed (edn_lst eda_nil)) (o_eqI (ys := []) hr)) (fun h => absurd (of_decide_eq_true h) (zip_ex hlen lq.ps)) fun _ => x_nil ?_)
  refine x_cons (x_for (EdI.ev (edi_rng1 (by kernel_rfl) (H.free 73) (ed_nm 0 (by kernel_rfl) rfl) (by omega) (by omega)) ⟨fun i n ρ => n = 0 ∧ ∃ a b c e, ρ = [.dat (.int (K : Nat)), .dat (.tup (ss.map sE)), .dat (tI v), a, b, c, e, .no, .no], ⟨rfl, .no, .no, .no, .no, rfl⟩, fun i z n2 ρ2 hx ⟨e1, a, b, c, e, e2⟩ => ?_, fun n2 ρ2 ⟨e1, a, b, c, e, e2⟩ => ?_⟩))
  · subst e1 e2
    rw [Int.toNat_natCast] at hx
    obtain ⟨hi, rfl⟩ := rgD_at hx
    refine ⟨_, _, gd_nm nd 3 (by kernel_rfl), x_one (x_for (EdI.ev (edi_tup (ed_tup (eda_cons ed_int (eda_cons ed_int eda_nil)) (by simp))) ⟨fun j n ρ => n = 0 ∧ ∃ b c e, ρ = [.dat (.int (K : Nat)), .dat (.tup (ss.map sE)), .dat (tI v), .dat (.int (i : Nat)), b, c, e, .no, .no], ⟨rfl, b, c, e, rfl⟩, fun j z n2 ρ2 hx ⟨e1, b, c, e, e2⟩ => ?_, fun n2 ρ2 ⟨e1, b, c, e, e2⟩ => ⟨e1, .dat (.int (i : Nat)), b, c, e, e2⟩⟩))⟩
    subst e1 e2
    have hj : j < 2 ∧ z = .int ((j : Int) + 1) := by
      match j, hx with
      | 0, hx => cases hx; exact ⟨by omega, rfl⟩
      | 1, hx => cases hx; exact ⟨by omega, rfl⟩
      | j + 2, hx => cases hx
    obtain ⟨hj, rfl⟩ := hj
    refine ⟨_, _, gd_nm nd 4 (by kernel_rfl), ?_⟩
    refine x_cons (x_setLcP nd 5 (by kernel_rfl) [("_law_one", 7), ("_law_sight", 8)] (by kernel_rfl) (ys := v.zip ss) (enc := fun p => .tup [.int p.1, sE p.2]) (t := fun p => decide ((p.2.1.k : Int) = (i : Int))) (f := fun p => .int (p.1 * jAt p.2.1 j)) (EdI.is (edi_zip2 (by kernel_rfl) (H.free 79) (ed_nm 2 (by kernel_rfl) rfl) (ed_nm 1 (by kernel_rfl) rfl) (by exact rfl) (by exact rfl) (by simpa using hlen)) (zp2_gen _ _ v ss)) hz (fun y hy => ⟨_, _, (by simp), (gd_tup (gds_cons (gd_nm nd 7 (by kernel_rfl)) (gds_cons (gd_nm nd 8 (by kernel_rfl)) gds_nil))), (etds_one (etd_cmp (ed_ix (ed_ix (ed_nm 8 (by kernel_rfl) rfl) ed_int (.tup rfl)) ed_int (.tup rfl)) (ed_nm 3 (by kernel_rfl) rfl) o_eq)), fun ht => (ed_op (ed_nm 7 (by kernel_rfl) rfl) (ed_ix (ed_ix (ed_nm 8 (by kernel_rfl) rfl) ed_int (.tup rfl)) (ed_nm 4 (by kernel_rfl) rfl) (jb_ix hj)) (o_mul (cm (hv _ (zmem hy).1) (jAt_bd (ho _ (zmem hy).2).1 _))))⟩) (.inl ?_))
    refine x_cons (x_setLcP nd 6 (by kernel_rfl) [("_law_one", 7), ("_law_sight", 8)] (by kernel_rfl) (ys := v.zip ss) (enc := fun p => .tup [.int p.1, sE p.2]) (t := fun p => decide ((p.2.2.k : Int) = (i : Int))) (f := fun p => .int (p.1 * jAt p.2.2 j)) (EdI.is (edi_zip2 (by kernel_rfl) (H.free 79) (ed_nm 2 (by kernel_rfl) rfl) (ed_nm 1 (by kernel_rfl) rfl) (by exact rfl) (by exact rfl) (by simpa using hlen)) (zp2_gen _ _ v ss)) hz (fun y hy => ⟨_, _, (by simp), (gd_tup (gds_cons (gd_nm nd 7 (by kernel_rfl)) (gds_cons (gd_nm nd 8 (by kernel_rfl)) gds_nil))), (etds_one (etd_cmp (ed_ix (ed_ix (ed_nm 8 (by kernel_rfl) rfl) ed_int (.tup rfl)) ed_int (.tup rfl)) (ed_nm 3 (by kernel_rfl) rfl) o_eq)), fun ht => (ed_op (ed_nm 7 (by kernel_rfl) rfl) (ed_ix (ed_ix (ed_nm 8 (by kernel_rfl) rfl) ed_int (.tup rfl)) (ed_nm 4 (by kernel_rfl) rfl) (jb_ix hj)) (o_mul (cm (hv _ (zmem hy).1) (jAt_bd (ho _ (zmem hy).2).2 _))))⟩) (.inl ?_))
    refine x_one (xd_if (b := decide (colA ss v i j ≠ colB ss v i j)) (etd_cmp (ed_blt (by kernel_rfl) (H.free 77) PyProof.Rows.boot_sum (eda_cons (Ed.is (ed_nm 5 (by kernel_rfl) rfl) (show _ = Dat.lst ((((v.zip ss).filter fun p => decide ((p.2.1.k : Int) = (i : Int))).map fun p => p.1 * jAt p.2.1 j).map Dat.int) by rw [List.map_map]; rfl)) eda_nil) (fun K k => c_sum k)) (ed_blt (by kernel_rfl) (H.free 77) PyProof.Rows.boot_sum (eda_cons (Ed.is (ed_nm 6 (by kernel_rfl) rfl) (show _ = Dat.lst ((((v.zip ss).filter fun p => decide ((p.2.2.k : Int) = (i : Int))).map fun p => p.1 * jAt p.2.2 j).map Dat.int) by rw [List.map_map]; rfl)) eda_nil) (fun K k => c_sum k)) o_ne) (fun h => absurd (lq.bal i hi j hj) (of_decide_eq_true h)) fun _ => x_nil ⟨rfl, _, _, _, rfl⟩)
  · subst e1 e2
    exact x_one (x_ret (Ed.ev ed_bl rfl))
end Kb
namespace Kb
open PySem PySem.Spec PyProof.Rows L2
/-! sorted(t), t a small tuple of ints -/
section
variable {prog : Program} {w : World} {A : Around} {E : Value → Shared → Prop} {s : Shared}
theorem collect_tup {l : Addr} {vs : List Value} {Q : List Value → Shared → Prop} (hl : IsTup s.heap l vs.toArray)
    (h : Q vs { s with heap := (s.heap.push (seqObj "list" #[] 0)).update s.heap.objs.size (Obj.mapSeq (· ++ vs.toArray)) }) (hsz : vs.length ≤ sizeLine) :
    wpAny (model prog w) A (collect (.ref l)) Q E s := by
  obtain ⟨o, ho, hc, n, hd⟩ := id hl
  unfold collect
  refine wpAny_bind (wpAny_runValue (codeAny_builtin entry_proto_collect' ?_))
  show wpAny _ _ (do again (.builtin "list.__iadd__" ⟨[← newList [], .ref l], []⟩)) _ _ s
  refine wpAny_bind (wpAny_newList (wpAny_pure ⟨Code.quiet_builtin _ (by decide +kernel), codeAny_builtin entry_list_iadd' ?_⟩))
  show wpAny _ _ (Builtin.List.listExtendWith (.ref s.heap.objs.size) (.ref l) (.ref s.heap.objs.size)) _ _ { s with heap := s.heap.push (seqObj "list" #[] 0) }
  unfold Builtin.List.listExtendWith
  have ho' : (s.heap.push (seqObj "list" #[] 0)).get? l = some o := Heap.get?_push_of_some _ ho
  refine wpAny_bind (wpAny_typeOf (T := "tuple") ⟨o, ho', hc⟩ ?_)
  have ht : (Value.type "tuple" == Value.type "tuple") = true := by rfl
  rw [if_pos (by rw [ht]; simp)]
  refine wpAny_bind (listItems_at ho' hd ?_)
  refine wpAny_bind (listItems_at (xs := #[]) (n := 0) (Heap.get?_push_size _ rfl) rfl ?_)
  rw [if_neg (by simp)]
  refine wpAny_bind (listUpdate_at (xs := #[]) (n := 0) (Heap.get?_push_size _ rfl) rfl ?_ (Nat.zero_le _) (by show (#[] ++ vs.toArray).size ≤ sizeLine + 1; simp only [Array.size_append, List.size_toArray, List.length_nil]; omega))
  refine wpAny_pure ?_
  show wpAny (model prog w) A (do
      let o ← load s.heap.objs.size
      match o.data with
      | .seq xs _ => pure xs.toList
      | _ => unsupported "internal:collect") Q E { s with heap := (s.heap.push (seqObj "list" #[] 0)).update s.heap.objs.size (Obj.mapSeq (· ++ vs.toArray)) }
  refine wpAny_bind (wpAny_load (get?_update_seq (Heap.get?_push_size _ rfl) _) ?_)
  show wpAny _ _ (pure ((#[] : Array Value) ++ vs.toArray).toList) Q E _
  rw [show ((#[] : Array Value) ++ vs.toArray).toList = vs by simp]
  exact wpAny_pure h
theorem sorted_intsT {l : Addr} {vs : List Value} {ns : List Int} {Q : Value → Shared → Prop} (hl : IsTup s.heap l vs.toArray) (hI : IntsAre vs ns) (h64 : vs.length < 64)
    (h : ∀ (out : Array Value) (ns' : List Int), IntsAre out.toList ns' → ns'.Perm ns → ns'.Pairwise (· ≤ ·) → Q (.ref (s.heap.objs.size + 1)) { s with heap := sortedAll s.heap vs out }) :
    wpAny (model prog w) A (call (.builtin "sorted") [.ref l]) Q E s := by
  have hsl : vs.length ≤ sizeLine := by rw [sizeLine_eq]; omega
  refine Calls.call_function_entry kind_sorted plain_sorted entry_sorted (args_sorted1 _) ?_
  unfold Builtin.«sorted»
  refine wpAny_bind (m := checkCount "sorted" 1 1 _) (wpAny_pure ?_)
  refine wpAny_bind (collect_tup hl ?_ hsl)
  refine wpAny_bind (wpAny_newList ?_ hsl)
  have hsz : ((s.heap.push (seqObj "list" #[] 0)).update s.heap.objs.size (Obj.mapSeq (· ++ vs.toArray))).objs.size = s.heap.objs.size + 1 := by
    rw [Heap.size_update, size_push']
  have hoL : (((s.heap.push (seqObj "list" #[] 0)).update s.heap.objs.size (Obj.mapSeq (· ++ vs.toArray))).push (seqObj "list" vs.toArray 0)).get? (s.heap.objs.size + 1) = some (seqObj "list" vs.toArray 0) := by
    rw [← hsz]; exact Heap.get?_push_size _ rfl
  show wpAny _ _ _ _ _ { s with heap := ((s.heap.push (seqObj "list" #[] 0)).update s.heap.objs.size (Obj.mapSeq (· ++ vs.toArray))).push (seqObj "list" vs.toArray 0) }
  rw [hsz]
  refine wpAny_bind (wpAny_holding (wpAny_call_entry slot_list_sort ⟨_, hoL, rfl⟩ entry_list_sort (list_sort_tree hoL hI h64 fun out ns' a1 a2 a3 => ⟨_, rfl, ?_⟩) (args_list_sort _)))
  exact wpAny_pure ⟨_, rfl, h out ns' a1 a2 a3⟩
end
def rSortedTI (K : PySem.W.Frag) : List V → Hp → VK → Prop := fun vs H Q => ∃ (a : Addr) (ns : List Int), vs = [V.ref a] ∧ SqT K H a (ns.map V.int) ∧ ns.length < 64 ∧
  ∀ (ns' : List Int) (p : Addr), ns'.Perm ns → ns'.Pairwise (· ≤ ·) → H p = none → Q (.ref p) (upd H p (.lst (ns'.map V.int)))
theorem cr_sortedTI {X : Cx} : CallR X (.builtin "sorted") (rSortedTI X.K) := by
  intro pins s σ H vs us Q I r h
  obtain ⟨a, ns, rfl, hs, h64, q⟩ := h
  obtain ⟨its, rv, hl, _⟩ := I.tuple hs
  rw [Vals.ref1 r]
  have hi := rv.ints
  refine sorted_intsT hl hi (by rw [hi.length]; exact h64) fun out ns' h1 h2 h3 => ?_
  obtain ⟨ep, he'⟩ := PyProof.Rows.sortedAll_at s.heap its out
  have hlen : (ns'.map V.int).length ≤ sizeLine := by rw [List.length_map, h2.length_eq]; exact small64 h64
  exact ⟨.ref _, upd H (s.heap.objs.size + 1) (.lst (ns'.map V.int)), I.laid (t' := s.toks) (fun _ _ => PyProof.Rows.sortedAll_old) (Nat.le_succ _) ⟨hlen, out.toList, ep, vals_of_ints h1, he'⟩, rfl, q ns' _ h2 h3 (I.hok.fresh (Nat.le_succ _))⟩
section
variable {S : Sg} {g : Wd}
theorem c_sortedT {ns : List Int} {K : List Dat → Prop} (h : ns.length < 64) (k : ∀ ms : List Int, ms.Perm ns → ms.Pairwise (· ≤ ·) → K (ms.map .int)) : CdN S (.builtin "sorted") [tI ns] K := fun M H vs a Q q => by
  obtain ⟨v, rfl, av⟩ := ats1 a
  obtain ⟨b, us, rfl, nb, hb, sb⟩ := at_tup av
  exact ⟨rSortedTI S.K, fun X c => by rw [← c.K]; exact cr_sortedTI, b, ns, rfl, SqT.of (by rw [← sb.ints]; exact hb), h, fun ms p h1 h2 hp => q p _ _ (ms.map .int) hp (same_new hp) upd_same Ats.of_ints (k ms h1 h2)⟩
theorem sorted_uniq : ∀ {l m : List Int}, l.Perm m → l.Pairwise (· ≤ ·) → m.Pairwise (· ≤ ·) → l = m
  | [], m, h, _, _ => h.nil_eq
  | x :: l, [], h, _, _ => absurd h.length_eq (by simp)
  | x :: l, y :: m, h, h1, h2 => by
    have a := List.pairwise_cons.mp h1
    have b := List.pairwise_cons.mp h2
    have e : x = y := by
      have c1 : y = x ∨ y ∈ l := List.mem_cons.mp (h.mem_iff.mpr List.mem_cons_self)
      have c2 : x = y ∨ x ∈ m := List.mem_cons.mp (h.mem_iff.mp List.mem_cons_self)
      rcases c1 with c1 | c1
      · exact c1.symm
      · rcases c2 with c2 | c2
        · exact c2
        · exact Int.le_antisymm (a.1 _ c1) (b.1 _ c2)
    subst e
    rw [sorted_uniq (h.cons_inv) a.2 b.2]
theorem sortedP_uniq : ∀ {l m : List (Int × Int)}, l.Perm m → l.Pairwise (fun p q => ¬ lexLt q p) → m.Pairwise (fun p q => ¬ lexLt q p) → l = m
  | [], m, h, _, _ => h.nil_eq
  | x :: l, [], h, _, _ => absurd h.length_eq (by simp)
  | x :: l, y :: m, h, h1, h2 => by
    have a := List.pairwise_cons.mp h1
    have b := List.pairwise_cons.mp h2
    have e : x = y := by
      have c1 : y = x ∨ y ∈ l := List.mem_cons.mp (h.mem_iff.mpr List.mem_cons_self)
      have c2 : x = y ∨ x ∈ m := List.mem_cons.mp (h.mem_iff.mp List.mem_cons_self)
      rcases c1 with c1 | c1
      · exact c1.symm
      · rcases c2 with c2 | c2
        · exact c2
        · have z1 := a.1 _ c1
          have z2 := b.1 _ c2
          unfold lexLt at z1 z2
          exact Prod.ext (by omega) (by omega)
    subst e
    rw [sortedP_uniq (h.cons_inv) a.2 b.2]
variable {e : Expr} {p pos : Pos} {ρ : En}
/-- sorted(t) is known -/
theorem edn_sortedT {ns ms : List Int} (hg : glB S.sc "sorted" = true) (hm : S.mg "sorted" = none) (h : Ed S g e ρ (tI ns)) (hz : ns.length < 64) (h1 : ms.Perm ns) (h2 : ms.Pairwise (· ≤ ·)) (he : ∀ env, starEach [e] env = (false, eval e env) :: starEach [] env := by intro _; rfl) : EdN S g (.Call (.Name "sorted" p) [e] [] pos) ρ (ms.map .int) := fun n =>
  evn_blt hg hm PyProof.Rows.boot_sorted (((eda_cons h eda_nil he) n).imp fun _ _ z => by rw [z.2]; exact c_sortedT hz fun ms' q1 q2 => ⟨z.1, by rw [sorted_uniq (q1.trans h1.symm) q2 h2]⟩) (by decide) he
theorem edn_sortedP {ns ms : List (Int × Int)} (hg : glB S.sc "sorted" = true) (hm : S.mg "sorted" = none) (h : Ed S g e ρ (lP ns)) (h1 : ms.Perm ns) (h2 : ms.Pairwise (fun p q => ¬ lexLt q p)) (he : ∀ env, starEach [e] env = (false, eval e env) :: starEach [] env := by intro _; rfl) : EdN S g (.Call (.Name "sorted" p) [e] [] pos) ρ (ms.map pI) := fun n =>
  evn_blt hg hm PyProof.Rows.boot_sorted (((eda_cons h eda_nil he) n).imp fun _ _ z => by rw [z.2]; exact c_sortedP fun ms' q1 q2 => ⟨z.1, by rw [sortedP_uniq (q1.trans h1.symm) q2 h2]⟩) (by decide) he
end
end Kb
namespace Kb
open PySem PySem.Spec PyProof.Rows L2
def nI (i : Nat) : Dat := .int (i : Nat)
theorem nI_map (l : List Nat) : l.map nI = (l.map fun i => ((i : Nat) : Int)).map Dat.int := by rw [List.map_map]; rfl
theorem zipIdx_map' {α β : Type} (f : α → β) (l : List α) (k : Nat) : (l.map f).zipIdx k = (l.zipIdx k).map fun p => (f p.1, p.2) := by
  induction l generalizing k with
  | nil => rfl
  | cons x l ih => simp [List.zipIdx_cons, ih]
def keysF (rl : List (Int × Int)) (cat : List Jb) : List (Int × Nat) := cat.zipIdx.map fun p => (keyF rl p.1, p.2)
def i2 (p : Int × Nat) : Int × Int := (p.1, (p.2 : Int))
def isFO (rl : List (Int × Int)) (cat : List Jb) (fo : List (Int × Nat)) : Prop := fo.Perm (keysF rl cat) ∧ (fo.map i2).Pairwise (fun p q => ¬ lexLt q p)
abbrev N_first_order : List Str := ["rule", "lot", "k", "job", "number"]
theorem sc_first_order : FnScope N_first_order ["rule", "lot"] (defScope s_first_order) := ⟨rfl, rfl, rfl, by decide +kernel, rfl, by decide +kernel, by decide +kernel⟩
def R_first_order (ds : List Dat) (d : Dat) : Prop := ∃ (rl : List (Int × Int)) (cat : List Jb) (fo : List (Int × Nat)), ds = [.tup (rl.map pI), .tup (cat.map Jb.enc)] ∧ okRl rl ∧ cat.length ≤ 4 ∧ (∀ x ∈ cat, x.Ok rl.length) ∧ isFO rl cat fo ∧ d = .tup ((fo.map (·.2)).map nI)
theorem ok_first_order {G : Gc} (H : Head G) : HasF G "first_order" 2 2 (PureSp 2 R_first_order) := by
  refine H.pure (st := s_first_order) (ps := ["rule", "lot"]) 31 23 (by kernel_rfl) (by kernel_rfl) sc_first_order (fun _ _ _ _ _ _ us hl => match us, hl with | [_, _], _ => rfl) fun A hr ds d hl hR => ?_
  have nd := sc_first_order.nd
  obtain ⟨rl, cat, fo, rfl, ho, hn, hc, ⟨f1, f2⟩, rfl⟩ := hR
  have hfl : fo.length ≤ 4 := by rw [f1.length_eq, keysF, List.length_map, List.length_zipIdx]; exact hn
  refine x_one (x_ret (Ed.ev (ed_tupleL (by kernel_rfl) (H.free 78) (EdN.ed (EdN.is (edn_lcm nd [("number", 4), ("k", 2)] (by kernel_rfl) (ys := fo) (enc := fun p => pI (i2 p)) (f := fun p => nI p.2) (edi_lst (EdN.ed (EdN.is (edn_sortedP (ms := fo.map i2) (by kernel_rfl) (H.free 75) (EdN.ed (EdN.is (edn_lcm nd [("k", 2), ("job", 3)] (by kernel_rfl) (ys := cat.zipIdx) (enc := fun p => .tup [.int (p.2 : Nat), p.1.enc]) (f := fun p => pI (keyF rl p.1, (p.2 : Int))) (EdI.is (edi_enumT (by kernel_rfl) (H.free 66) (ed_nm 1 (by kernel_rfl) rfl)) ?_) (by rw [List.length_zipIdx]; omega) (fun y hy => ⟨_, _, (by simp), (gd_tup (gds_cons (gd_nm nd 2 (by kernel_rfl)) (gds_cons (gd_nm nd 3 (by kernel_rfl)) gds_nil))), (ed_tup (eda_cons (ed_call (ok_key H) (hr.mono (by decide)) (by kernel_rfl) (eda_cons (ed_nm 0 (by kernel_rfl) rfl) (eda_cons (ed_nm 3 (by kernel_rfl) rfl) eda_nil)) ⟨rl, y.1, rfl, hc _ (List.fst_mem_of_mem_zipIdx hy), ho, rfl⟩) (eda_cons (ed_nm 2 (by kernel_rfl) rfl) eda_nil)) (by simp))⟩)) (show _ = ((keysF rl cat).map i2).map pI by simp [keysF, i2, Function.comp_def]))) (f1.map _) f2) (show _ = fo.map fun p => pI (i2 p) by rw [List.map_map]; rfl)))) (by omega) (fun y hy => ⟨_, _, (by simp), (gd_tup (gds_cons (gd_nm nd 4 (by kernel_rfl)) (gds_cons (gd_nm nd 2 (by kernel_rfl)) gds_nil))), (ed_nm 2 (by kernel_rfl) rfl)⟩)) (show _ = (fo.map (·.2)).map nI by rw [List.map_map]; rfl)))) rfl))
  rw [zipIdx_map', List.map_map]
  rfl
abbrev N__law_is_order : List Str := ["_law_many", "_law_value_here", "_law_one"]
theorem sc__law_is_order : FnScope N__law_is_order ["_law_many", "_law_value_here"] (defScope s__law_is_order) := ⟨rfl, rfl, rfl, by decide +kernel, rfl, by decide +kernel, by decide +kernel⟩
def R__law_is_order (ds : List Dat) (d : Dat) : Prop := ∃ (n : Nat) (os : List Nat), ds = [.int (n : Nat), .tup (os.map nI)] ∧ n ≤ 4 ∧ os.Perm (List.range n) ∧ d = .bl true
theorem rg_sorted (n : Nat) : ((List.range n).map fun i => ((i : Nat) : Int)).Pairwise (· ≤ ·) := by
  rw [List.pairwise_map]
  exact (List.pairwise_lt_range (n := n)).imp fun h => by omega
theorem ok__law_is_order {G : Gc} (H : Head G) : HasF G "_law_is_order" 2 2 (PureSp 2 R__law_is_order) := by
  refine H.pure (st := s__law_is_order) (ps := ["_law_many", "_law_value_here"]) 66 58 (by kernel_rfl) (by kernel_rfl) sc__law_is_order (fun _ _ _ _ _ _ us hl => match us, hl with | [_, _], _ => rfl) fun A hr ds d hl hR => ?_
  have nd := sc__law_is_order.nd
  obtain ⟨n, os, rfl, hn, hp, rfl⟩ := hR
  have hol : os.length = n := by rw [hp.length_eq, List.length_range]
  have hT : ∀ l, dTy (.tup l) ≠ "?" := fun l => (show ("tuple" : String) ≠ "?" by decide)
  refine x_cons (xd_if (b := !true || !((os.map fun _ => true).all id)) (etd_w (ewd_or (etd_not (etd_val (ed_isi (by kernel_rfl) (H.free 68) (by kernel_rfl) (H.free 78) PyProof.Rows.boot_tuple (by decide) (ed_nm 1 (by kernel_rfl) rfl) (hT _) rfl))) (fun h => (ewd_or1 (etd_cmp ed_bl (EdN.ed (EdN.is (edn_lcm nd [("_law_one", 2)] (by kernel_rfl) (ys := os) (enc := nI) (f := fun (i : Nat) => Dat.bl (decide ((0 : Int) ≤ (i : Int)))) (edi_tup (ed_nm 1 (by kernel_rfl) rfl)) (by omega) (fun y hy => ⟨_, _, (by simp), (gd_nm nd 2 (by kernel_rfl)), (ed_call (ok__law_from H) (hr.mono (by decide)) (by kernel_rfl) (eda_cons (ed_nm 2 (by kernel_rfl) rfl) (eda_cons ed_int eda_nil)) ⟨_, _, rfl, rfl⟩)⟩)) (show _ = (os.map fun _ => true).map Dat.bl by rw [List.map_map]; exact List.map_congr_left fun i _ => by simp))) o_inF))))) (fun h => absurd h (by simp)) fun _ => x_nil ?_)
  refine x_one (x_ret (Ed.ev (ed_cmp (EdN.ed (edn_sortedT (ns := os.map fun i => ((i : Nat) : Int)) (ms := (List.range n).map fun i => ((i : Nat) : Int)) (by kernel_rfl) (H.free 75) (Ed.is (ed_nm 1 (by kernel_rfl) rfl) (show _ = Dat.tup _ by rw [nI_map])) (by rw [List.length_map]; omega) ((hp.symm).map _) (rg_sorted n))) (EdN.ed (EdN.is (edn_listRg (by kernel_rfl) (H.free 70) (by kernel_rfl) (H.free 73) (ed_nm 0 (by kernel_rfl) rfl) (by omega) (by omega)) (show _ = ((List.range n).map fun i => ((i : Nat) : Int)).map Dat.int by rw [Int.toNat_natCast, rgD_range, List.map_map]; rfl))) (o_eqI hr)) ?_))
  rw [decide_eq_true rfl]
abbrev N__law_ranks : List Str := ["_law_measure", "_law_catalogue", "_law_value_here", "_law_k", "_law_j", "_law_i"]
theorem sc__law_ranks : FnScope N__law_ranks ["_law_measure", "_law_catalogue", "_law_value_here"] (defScope s__law_ranks) := ⟨rfl, rfl, rfl, by decide +kernel, rfl, by decide +kernel, by decide +kernel⟩
def R__law_ranks (ds : List Dat) (d : Dat) : Prop := ∃ (m : Ms) (cat : List Jb) (os : List Nat), ds = [m.enc, .tup (cat.map Jb.enc), .tup (os.map nI)] ∧ m.Ok ∧ okCat m cat ∧ os.Perm (List.range cat.length) ∧ os.Pairwise (fun j i => firstF m (jb cat i) (jb cat j) = none) ∧ d = .bl true
theorem cutD_from (xs : List Dat) (k : Nat) : cutD xs (some ((k : Int) + 1)) none = xs.drop (k + 1) := by
  unfold cutD
  rw [show ((k : Int) + 1) = ((k + 1 : Nat) : Int) by omega, HT.sIx_nat, HT.sIx_none]
  rcases Nat.le_total (k + 1) xs.length with h | h
  · rw [Nat.min_eq_left h]
    exact List.take_of_length_le (by simp)
  · rw [Nat.min_eq_right h]
    simp [h]
theorem cutD_to (xs : List Dat) (k : Nat) : cutD xs none (some (k : Int)) = xs.take k := by
  unfold cutD
  rw [HT.sIx_nat, HT.sIx_none, Nat.sub_zero, List.drop_zero]
  rcases Nat.le_total k xs.length with h | h
  · rw [Nat.min_eq_left h]
  · rw [Nat.min_eq_right h, List.take_length, List.take_of_length_le h]
theorem ok__law_ranks {G : Gc} (H : Head G) : HasF G "_law_ranks" 5 3 (PureSp 3 R__law_ranks) := by
  refine H.pure (st := s__law_ranks) (ps := ["_law_measure", "_law_catalogue", "_law_value_here"]) 67 59 (by kernel_rfl) (by kernel_rfl) sc__law_ranks (fun _ _ _ _ _ _ us hl => match us, hl with | [_, _, _], _ => rfl) fun A hr ds d hl hR => ?_
  have nd := sc__law_ranks.nd
  obtain ⟨m, cat, os, rfl, ho, ⟨hn, hc⟩, hp, hw, rfl⟩ := hR
  have hol : os.length = cat.length := by rw [hp.length_eq, List.length_range]
  have hin : ∀ i ∈ os, i < cat.length := fun i hi => List.mem_range.mp (hp.mem_iff.mp hi)
  refine x_cons (xd_if (b := !true) (etd_not (etd_val (ed_call (ok__law_is_order H) (hr.mono (by decide)) (by kernel_rfl) (eda_cons (ed_len (xs := cat.map Jb.enc) (by kernel_rfl) (H.free 69) (ed_nm 1 (by kernel_rfl) rfl) (by exact rfl)) (eda_cons (ed_nm 2 (by kernel_rfl) rfl) eda_nil)) ⟨cat.length, os, by rw [List.length_map], hn, hp, rfl⟩))) (fun h => by cases h) fun _ => x_nil ?_)
  refine x_cons (x_for (EdI.ev (edi_enumT (by kernel_rfl) (H.free 66) (ed_nm 2 (by kernel_rfl) rfl)) ⟨fun i n ρ => n = 0 ∧ ∃ a b c, ρ = [.dat m.enc, .dat (.tup (cat.map Jb.enc)), .dat (.tup (os.map nI)), a, b, c], ⟨rfl, .no, .no, .no, rfl⟩, fun k z n2 ρ2 hz ⟨e1, a, b, c, e2⟩ => ?_, fun n2 ρ2 ⟨e1, a, b, c, e2⟩ => ?_⟩))
  · subst e1 e2
    rw [zipIdx_map', List.map_map, List.getElem?_map, List.getElem?_zipIdx, Option.map_map] at hz
    cases hq : os[k]? with
    | none => rw [hq] at hz; cases hz
    | some j =>
      rw [hq] at hz
      have ez : z = .tup [.int (k : Nat), nI j] := by
        simp at hz
        exact hz.symm
      subst ez
      have hj := hin j (List.mem_of_getElem? hq)
      have gj : cat[j]? = some (jb cat j) := getD_get hj
      refine ⟨_, _, (gd_tup (gds_cons (gd_nm nd 3 (by kernel_rfl)) (gds_cons (gd_nm nd 4 (by kernel_rfl)) gds_nil))), x_one (x_for (EdI.ev (edi_tup (ed_sliceT (ed_nm 2 (by kernel_rfl) rfl) (.some (ed_op (ed_nm 3 (by kernel_rfl) rfl) ed_int o_add)) .none)) ⟨fun i n ρ => n = 0 ∧ ∃ c, ρ = [.dat m.enc, .dat (.tup (cat.map Jb.enc)), .dat (.tup (os.map nI)), .dat (.int (k : Nat)), .dat (nI j), c], ⟨rfl, c, rfl⟩, fun t z n2 ρ2 hz ⟨e1, c, e2⟩ => ?_, fun n2 ρ2 ⟨e1, c, e2⟩ => ⟨e1, .dat (.int (k : Nat)), .dat (nI j), c, e2⟩⟩))⟩
      subst e1 e2
      rw [cutD_from, List.getElem?_drop, List.getElem?_map] at hz
      cases hq2 : os[k + 1 + t]? with
      | none => rw [hq2] at hz; cases hz
      | some i =>
        rw [hq2] at hz
        cases hz
        have hi := hin i (List.mem_of_getElem? hq2)
        have gi : cat[i]? = some (jb cat i) := getD_get hi
        have hno : firstF m (jb cat i) (jb cat j) = none := by
          obtain ⟨l1, e1⟩ := List.getElem?_eq_some_iff.mp hq
          obtain ⟨l2, e2⟩ := List.getElem?_eq_some_iff.mp hq2
          have := List.pairwise_iff_getElem.mp hw k (k + 1 + t) l1 l2 (by omega)
          rwa [e1, e2] at this
        refine ⟨_, _, gd_nm nd 5 (by kernel_rfl), x_one (xd_if (b := false) (EdT.is (etd_cmp (Ed.is (ed_call (ok__law_first H) (hr.mono (by decide)) (by kernel_rfl) (eda_cons (ed_nm 0 (by kernel_rfl) rfl) (eda_cons (ed_ix (ed_nm 1 (by kernel_rfl) rfl) (ed_nm 5 (by kernel_rfl) rfl) (ixt_nat (get_map gi))) (eda_cons (ed_ix (ed_nm 1 (by kernel_rfl) rfl) (ed_nm 4 (by kernel_rfl) rfl) (ixt_nat (get_map gj))) eda_nil))) ⟨m, _, _, rfl, ho, hc _ (List.mem_of_getElem? gi), hc _ (List.mem_of_getElem? gj), rfl⟩) (show _ = Dat.non by rw [hno]; rfl)) ed_non o_notN) rfl) (fun h => by cases h) fun _ => x_nil ⟨rfl, _, rfl⟩)⟩
  · subst e1 e2
    exact x_one (x_ret (Ed.ev ed_bl rfl))
end Kb
namespace Kb
open PySem PySem.Spec PyProof.Rows L2
abbrev N__law_is_demand : List Str := ["_law_measure", "_law_catalogue", "_law_value_here", "_law_one"]
theorem sc__law_is_demand : FnScope N__law_is_demand ["_law_measure", "_law_catalogue", "_law_value_here"] (defScope s__law_is_demand) := ⟨rfl, rfl, rfl, by decide +kernel, rfl, by decide +kernel, by decide +kernel⟩
structure DmOk (m : Ms) (cat : List Jb) (q : Dm) : Prop where
  i : q.1 < cat.length
  j : q.2.1 < cat.length
  s : 0 ≤ q.2.2 ∧ Bd 900 q.2.2
  lt : valF m (jb cat q.1) (jb cat q.2.1) q.2.2 < valF m (jb cat q.2.1) (jb cat q.1) q.2.2
def R__law_is_demand (ds : List Dat) (d : Dat) : Prop := ∃ (m : Ms) (cat : List Jb) (q : Dm), ds = [m.enc, .tup (cat.map Jb.enc), dE q] ∧ m.Ok ∧ okCat m cat ∧ DmOk m cat q ∧ d = .bl true
theorem ok__law_is_demand {G : Gc} (H : Head G) : HasF G "_law_is_demand" 4 3 (PureSp 3 R__law_is_demand) := by
  refine H.pure (st := s__law_is_demand) (ps := ["_law_measure", "_law_catalogue", "_law_value_here"]) 68 60 (by kernel_rfl) (by kernel_rfl) sc__law_is_demand (fun _ _ _ _ _ _ us hl => match us, hl with | [_, _, _], _ => rfl) fun A hr ds d hl hR => ?_
  have nd := sc__law_is_demand.nd
  obtain ⟨m, cat, q, rfl, ho, ⟨hn, hc⟩, dq, rfl⟩ := hR
  have hT : ∀ l, dTy (.tup l) ≠ "?" := fun l => (show ("tuple" : String) ≠ "?" by decide)
  have gi : cat[q.1]? = some (jb cat q.1) := getD_get dq.i
  have gj : cat[q.2.1]? = some (jb cat q.2.1) := getD_get dq.j
  refine x_cons (xd_if (b := !true || (decide (((3 : Nat) : Int) ≠ 3) || !([true, true, true].all id))) (etd_w (ewd_or (etd_not (etd_val (ed_isi (by kernel_rfl) (H.free 68) (by kernel_rfl) (H.free 78) PyProof.Rows.boot_tuple (by decide) (ed_nm 2 (by kernel_rfl) rfl) (hT _) rfl))) (fun h => (ewd_or (etd_cmp (ed_len (xs := [.int (q.1 : Nat), .int (q.2.1 : Nat), .int q.2.2]) (by kernel_rfl) (H.free 69) (ed_nm 2 (by kernel_rfl) rfl) (by exact rfl)) ed_int o_ne) (fun h => (ewd_or1 (etd_cmp ed_bl (EdN.ed (EdN.is (edn_lcm nd [("_law_one", 3)] (by kernel_rfl) (ys := [((q.1 : Nat) : Int), ((q.2.1 : Nat) : Int), q.2.2]) (enc := .int) (f := fun x => .bl (decide (0 ≤ x))) (edi_tup (ed_nm 2 (by kernel_rfl) rfl)) (by simp) (fun y hy => ⟨_, _, (by simp), (gd_nm nd 3 (by kernel_rfl)), (ed_call (ok__law_from H) (hr.mono (by decide)) (by kernel_rfl) (eda_cons (ed_nm 3 (by kernel_rfl) rfl) (eda_cons ed_int eda_nil)) ⟨y, 0, rfl, rfl⟩)⟩)) (show _ = [true, true, true].map Dat.bl by simp [dq.s.1]))) o_inF))))))) (fun h => by cases h) fun _ => x_nil ?_)
  refine x_cons (xd_if (b := decide (((cat.map Jb.enc).length : Int) ≤ (q.1 : Nat)) || decide (((cat.map Jb.enc).length : Int) ≤ (q.2.1 : Nat))) (etd_w (ewd_or (etd_cmp (ed_ix (ed_nm 2 (by kernel_rfl) rfl) ed_int (.tup rfl)) (ed_len (xs := cat.map Jb.enc) (by kernel_rfl) (H.free 69) (ed_nm 1 (by kernel_rfl) rfl) (by exact rfl)) o_ge) (fun h => (ewd_or1 (etd_cmp (ed_ix (ed_nm 2 (by kernel_rfl) rfl) ed_int (.tup rfl)) (ed_len (xs := cat.map Jb.enc) (by kernel_rfl) (H.free 69) (ed_nm 1 (by kernel_rfl) rfl) (by exact rfl)) o_ge))))) (fun h => absurd h (by have := dq.i; have := dq.j; simp; omega)) fun _ => x_nil ?_)
  refine x_one (x_ret (Ed.ev (ed_cmp (ed_call (ok__law_sign H) (hr.mono (by decide)) (by kernel_rfl) (eda_cons (ed_nm 0 (by kernel_rfl) rfl) (eda_cons (ed_ix (ed_nm 1 (by kernel_rfl) rfl) (ed_ix (ed_nm 2 (by kernel_rfl) rfl) ed_int (.tup rfl)) (ixt_nat (get_map gi))) (eda_cons (ed_ix (ed_nm 1 (by kernel_rfl) rfl) (ed_ix (ed_nm 2 (by kernel_rfl) rfl) ed_int (.tup rfl)) (ixt_nat (get_map gj))) (eda_cons (ed_ix (ed_nm 2 (by kernel_rfl) rfl) ed_int (.tup rfl)) eda_nil)))) ⟨m, _, _, _, rfl, ho, hc _ (List.mem_of_getElem? gi), hc _ (List.mem_of_getElem? gj), dq.s.2, rfl⟩) ed_int o_lt) ?_))
  have := dq.lt
  rw [decide_eq_false (show ¬ (valF m (jb cat q.2.1) (jb cat q.1) q.2.2 < valF m (jb cat q.1) (jb cat q.2.1) q.2.2) by omega), decide_eq_true this]
  rfl
abbrev N__law_is_ring : List Str := ["_law_measure", "_law_catalogue", "_law_value_here", "_law_firsts", "_law_seconds", "_law_one"]
theorem sc__law_is_ring : FnScope N__law_is_ring ["_law_measure", "_law_catalogue", "_law_value_here"] (defScope s__law_is_ring) := ⟨rfl, rfl, rfl, by decide +kernel, rfl, by decide +kernel, by decide +kernel⟩
structure RgOk (m : Ms) (cat : List Jb) (rg : List Dm) : Prop where
  two : 2 ≤ rg.length
  few : rg.length ≤ 100
  dm : ∀ q ∈ rg, DmOk m cat q
  turn : rg.map (fun q => q.2.1) = (rg.map (fun q => q.1)).drop 1 ++ (rg.map (fun q => q.1)).take 1
  nd : (rg.map fun q => q.1).Nodup
def R__law_is_ring (ds : List Dat) (d : Dat) : Prop := ∃ (m : Ms) (cat : List Jb) (rg : List Dm), ds = [m.enc, .tup (cat.map Jb.enc), .tup (rg.map dE)] ∧ m.Ok ∧ okCat m cat ∧ RgOk m cat rg ∧ d = .bl true
theorem ok__law_is_ring {G : Gc} (H : Head G) : HasF G "_law_is_ring" 5 3 (PureSp 3 R__law_is_ring) := by
  refine H.pure (st := s__law_is_ring) (ps := ["_law_measure", "_law_catalogue", "_law_value_here"]) 69 61 (by kernel_rfl) (by kernel_rfl) sc__law_is_ring (fun _ _ _ _ _ _ us hl => match us, hl with | [_, _, _], _ => rfl) fun A hr ds d hl hR => ?_
  have nd := sc__law_is_ring.nd
  obtain ⟨m, cat, rg, rfl, ho, hc, hg, rfl⟩ := hR
  have hT : ∀ l, dTy (.tup l) ≠ "?" := fun l => (show ("tuple" : String) ≠ "?" by decide)
  have hz := hg.few
  refine x_cons (xd_if (b := !true || decide (((rg.map dE).length : Int) < 2)) (etd_w (ewd_or (etd_not (etd_val (ed_isi (by kernel_rfl) (H.free 68) (by kernel_rfl) (H.free 78) PyProof.Rows.boot_tuple (by decide) (ed_nm 2 (by kernel_rfl) rfl) (hT _) rfl))) (fun h => (ewd_or1 (etd_cmp (ed_len (xs := rg.map dE) (by kernel_rfl) (H.free 69) (ed_nm 2 (by kernel_rfl) rfl) (by exact rfl)) ed_int o_lt))))) (fun h => absurd h (by have := hg.two; simp; omega)) fun _ => x_nil ?_)
  refine x_cons (xd_if (b := !((rg.map fun _ => true).all id)) (etd_cmp ed_bl (EdN.ed (EdN.is (edn_lcm nd [("_law_one", 5)] (by kernel_rfl) (ys := rg) (enc := dE) (f := fun _ => Dat.bl true) (edi_tup (ed_nm 2 (by kernel_rfl) rfl)) (by omega) (fun y hy => ⟨_, _, (by simp), (gd_nm nd 5 (by kernel_rfl)), (ed_call (ok__law_is_demand H) (hr.mono (by decide)) (by kernel_rfl) (eda_cons (ed_nm 0 (by kernel_rfl) rfl) (eda_cons (ed_nm 1 (by kernel_rfl) rfl) (eda_cons (ed_nm 5 (by kernel_rfl) rfl) eda_nil))) ⟨m, cat, y, rfl, ho, hc, hg.dm y hy, rfl⟩)⟩)) (show _ = (rg.map fun _ => true).map Dat.bl by rw [List.map_map]; rfl))) o_inF) (fun h => absurd h (by simp)) fun _ => x_nil ?_)
  refine x_cons (x_par2 nd 3 4 ⟨rfl, rfl⟩ ⟨rfl, rfl⟩ (by decide) (by simp [startE]) (by kernel_rfl) (era_new (EdN.ev (EdN.is (edn_lcm nd [("_law_one", 5)] (by kernel_rfl) (ys := rg) (enc := dE) (f := fun q => nI q.1) (edi_tup (ed_nm 2 (by kernel_rfl) rfl)) (by omega) (fun y hy => ⟨_, _, (by simp), (gd_nm nd 5 (by kernel_rfl)), (ed_ix (ed_nm 5 (by kernel_rfl) rfl) ed_int (.tup rfl))⟩)) (show _ = (rg.map fun q => q.1).map nI by rw [List.map_map]; rfl)) (era_new (EdN.ev (EdN.is (edn_lcm nd [("_law_one", 5)] (by kernel_rfl) (ys := rg) (enc := dE) (f := fun q => nI q.2.1) (edi_tup (ed_nm 2 (by kernel_rfl) rfl)) (by omega) (fun y hy => ⟨_, _, (by simp), (gd_nm nd 5 (by kernel_rfl)), (ed_ix (ed_nm 5 (by kernel_rfl) rfl) ed_int (.tup rfl))⟩)) (show _ = (rg.map fun q => q.2.1).map nI by rw [List.map_map]; rfl)) (era_nil ⟨rfl, ?_⟩))))))
  refine x_freeze (i := 3) rfl (x_freeze (i := 4) rfl ?_)
  have hF : ((rg.map fun q => q.1).map fun i => ((i : Nat) : Int)).Nodup := by
    have := hg.nd
    unfold List.Nodup at this ⊢
    rw [List.pairwise_map]
    exact this.imp fun h e => h (by omega)
  have hS : ((rg.map fun q => q.2.1).map fun i => ((i : Nat) : Int)) = (((rg.map fun q => q.1).map fun i => ((i : Nat) : Int)).drop 1 ++ ((rg.map fun q => q.1).map fun i => ((i : Nat) : Int)).take 1) := by
    rw [hg.turn, List.map_append, List.map_drop, List.map_take]
  refine x_one (x_ret (Ed.ev (d := .bl (decide (((rg.map fun q => q.2.1).map fun i => ((i : Nat) : Int)) = (((rg.map fun q => q.1).map fun i => ((i : Nat) : Int)).drop 1 ++ ((rg.map fun q => q.1).map fun i => ((i : Nat) : Int)).take 1)) && decide (((((rg.map fun q => q.1).map fun i => ((i : Nat) : Int)).length : Nat) : Int) = (((rg.map fun q => q.1).map nI).length : Nat)))) (ed_and (ed_cmp (Ed.is (ed_nm 4 (by kernel_rfl) rfl) (show _ = lI ((rg.map fun q => q.2.1).map fun i => ((i : Nat) : Int)) by rw [nI_map])) (EdN.ed (EdN.is (edn_op (EdN.ed (edn_slice (ed_nm 3 (by kernel_rfl) rfl) (.some ed_int) .none)) (EdN.ed (edn_slice (ed_nm 3 (by kernel_rfl) rfl) .none (.some ed_int))) (on_cat ?_)) (show _ = (((rg.map fun q => q.1).map fun i => ((i : Nat) : Int)).drop 1 ++ ((rg.map fun q => q.1).map fun i => ((i : Nat) : Int)).take 1).map Dat.int from ?_))) (o_eqI hr)) (fun h => (ed_one (ed_cmp (ed_lenSet (by kernel_rfl) (H.free 69) (by kernel_rfl) (H.free 74) (Ed.is (ed_nm 3 (by kernel_rfl) rfl) (show _ = lI ((rg.map fun q => q.1).map fun i => ((i : Nat) : Int)) by rw [nI_map])) hF (by rw [List.length_map, List.length_map]; omega)) (ed_len (xs := (rg.map fun q => q.1).map nI) (by kernel_rfl) (H.free 69) (ed_nm 3 (by kernel_rfl) rfl) (by exact rfl)) o_eq)))) ?_))
  · rw [show (1 : Int) = ((0 : Nat) : Int) + 1 by rfl, cutD_from]
    rw [show ((0 : Nat) : Int) + 1 = ((1 : Nat) : Int) by rfl, cutD_to]
    simp
    omega
  · rw [show (1 : Int) = ((0 : Nat) : Int) + 1 by rfl, cutD_from]
    rw [show ((0 : Nat) : Int) + 1 = ((1 : Nat) : Int) by rfl, cutD_to, nI_map, List.map_append, List.map_drop, List.map_take]
  · rw [decide_eq_true hS]
    simp
end Kb
namespace Kb
open PySem PySem.Spec PyProof.Rows L2
theorem mem_cast {i : Nat} {xs : List Nat} : decide ((i : Int) ∈ xs.map fun i => ((i : Nat) : Int)) = decide (i ∈ xs) := by
  rw [decide_eq_decide, List.mem_map]
  constructor
  · rintro ⟨j, hj, e⟩
    have : j = i := by omega
    exact this ▸ hj
  · exact fun h => ⟨i, h, rfl⟩
section
variable {S : Sg}
theorem o_inN {i : Nat} {xs : List Nat} : Op S (compareOp .In) (nI i) (.lst (xs.map nI)) (.bl (decide (i ∈ xs))) := by
  rw [nI_map, ← mem_cast]
  exact o_inI
theorem o_ninN {i : Nat} {xs : List Nat} : Op S (compareOp .NotIn) (nI i) (.lst (xs.map nI)) (.bl (decide (i ∉ xs))) := by
  rw [nI_map]
  have := o_ninI (S := S) (i := (i : Int)) (xs := xs.map fun i => ((i : Nat) : Int))
  rw [show decide ((i : Int) ∉ xs.map fun i => ((i : Nat) : Int)) = decide (i ∉ xs) by
    have := mem_cast (i := i) (xs := xs)
    rw [decide_not, decide_not, this]] at this
  exact this
theorem o_eqN {i j : Nat} : Op S (compareOp .Eq) (nI i) (nI j) (.bl (decide (i = j))) := by
  have := o_eq (S := S) (i := (i : Int)) (j := (j : Int))
  rw [show decide ((i : Int) = (j : Int)) = decide (i = j) by rw [decide_eq_decide]; omega] at this
  exact this
theorem o_neN {i j : Nat} : Op S (compareOp .NotEq) (nI i) (nI j) (.bl (decide (i ≠ j))) := by
  have := o_ne (S := S) (i := (i : Int)) (j := (j : Int))
  rw [show decide ((i : Int) ≠ (j : Int)) = decide (i ≠ j) by rw [decide_eq_decide]; omega] at this
  exact this
theorem o_neN0 {k : Nat} (hr : Room k S.A) {xs : List Nat} : Op S (compareOp .NotEq) (.lst (xs.map nI)) (.lst []) (.bl (decide (xs ≠ []))) := by
  have := o_neI (S := S) hr (xs := xs.map fun i => ((i : Nat) : Int)) (ys := [])
  rw [show decide ((xs.map fun i => ((i : Nat) : Int)) ≠ []) = decide (xs ≠ []) by simp] at this
  rw [nI_map]
  exact this
theorem o_eqN0 {k : Nat} (hr : Room k S.A) {xs : List Nat} : Op S (compareOp .Eq) (.lst (xs.map nI)) (.lst []) (.bl (decide (xs = []))) := by
  have := o_eqI (S := S) hr (xs := xs.map fun i => ((i : Nat) : Int)) (ys := [])
  rw [show decide ((xs.map fun i => ((i : Nat) : Int)) = []) = decide (xs = []) by simp] at this
  rw [nI_map]
  exact this
end
def freeF (qs : List Dm) (left : List Nat) : List Nat := left.filter fun j => !(((qs.filter fun q => decide (q.2.1 = j)).map fun q => decide (q.1 ∈ left)).any id)
def rkF (qs : List Dm) (cnt : Nat) : Nat → List Nat × List Nat
  | 0 => ([], List.range cnt)
  | t + 1 => match freeF qs (rkF qs cnt t).2 with
    | [] => rkF qs cnt t
    | j :: _ => ((rkF qs cnt t).1 ++ [j], (rkF qs cnt t).2.filter fun x => decide (x ≠ j))
theorem rkF_len (qs : List Dm) (cnt : Nat) : ∀ t, (rkF qs cnt t).1.length ≤ t ∧ (rkF qs cnt t).2.length ≤ cnt
  | 0 => ⟨Nat.le_refl _, by simp [rkF]⟩
  | t + 1 => by
    have ih := rkF_len qs cnt t
    rw [rkF]
    split
    · exact ⟨by omega, ih.2⟩
    · exact ⟨by simp; omega, Nat.le_trans (List.length_filter_le _ _) ih.2⟩
theorem at0 (j : Nat) (js : List Nat) : atI ((j :: js).map nI) 0 = some (nI j) := by
  rw [show (0 : Int) = ((0 : Nat) : Int) from rfl, atI_nat]
  rfl
abbrev N_ranked : List Str := ["count", "some", "found", "left", "turn", "free", "j", "i", "other", "start"]
theorem sc_ranked : FnScope N_ranked ["count", "some"] (defScope s_ranked) := ⟨rfl, rfl, rfl, by decide +kernel, rfl, by decide +kernel, by decide +kernel⟩
def R_ranked (ds : List Dat) (d : Dat) : Prop := ∃ (n : Nat) (qs : List Dm), ds = [.int (n : Nat), .lst (qs.map dE)] ∧ n ≤ 100 ∧ qs.length ≤ 1000 ∧ d = .tup [.lst ((rkF qs n n).1.map nI), .lst ((rkF qs n n).2.map nI)]
theorem ok_ranked {G : Gc} (H : Head G) : HasF G "ranked" 1 2 (PureSp 2 R_ranked) := by
  refine H.pure (st := s_ranked) (ps := ["count", "some"]) 35 27 (by kernel_rfl) (by kernel_rfl) sc_ranked (fun _ _ _ _ _ _ us hl => match us, hl with | [_, _], _ => rfl) fun A hr ds d hl hR => ?_
  have nd := sc_ranked.nd
  obtain ⟨n, qs, rfl, hn, hq, rfl⟩ := hR
  refine x_cons (x_pack nd [2, 3] (.cons (by kernel_rfl) (.cons (by kernel_rfl) .nil)) (by simp [startE]) (by decide) (era_new (EdN.ev (edn_lst eda_nil) (era_new (EdN.ev (EdN.is (edn_listRg (by kernel_rfl) (H.free 70) (by kernel_rfl) (H.free 73) (ed_nm 0 (by kernel_rfl) rfl) (by omega) (by omega)) (show _ = (rkF qs n 0).2.map nI by rw [Int.toNat_natCast, rgD_range]; rfl)) (era_nil ⟨rfl, ?_⟩))))) (by kernel_rfl))
  refine x_freeze (i := 3) rfl ?_
  refine x_cons (x_for (EdI.ev (edi_rng1 (by kernel_rfl) (H.free 73) (ed_nm 0 (by kernel_rfl) rfl) (by omega) (by omega)) ⟨fun t m ρ => m = 0 ∧ ∃ a b, ρ = [.dat (.int (n : Nat)), .dat (.lst (qs.map dE)), .own ((rkF qs n t).1.map nI), .dat (.lst ((rkF qs n t).2.map nI)), a, b, .no, .no, .no, .no], ⟨rfl, .no, .no, rfl⟩, fun t z m2 ρ2 hz ⟨e1, a, b, e2⟩ => ?_, fun m2 ρ2 ⟨e1, a, b, e2⟩ => ?_⟩))
  · subst e1 e2
    rw [Int.toNat_natCast] at hz
    obtain ⟨ht, rfl⟩ := rgD_at hz
    have hL := rkF_len qs n t
    refine ⟨_, _, gd_nm nd 4 (by kernel_rfl), x_cons (xd_setNc nd 5 (by kernel_rfl) (by simp) (EdN.is (edn_lc nd [("j", 6)] (by kernel_rfl) (ys := (rkF qs n t).2) (enc := nI) (t := fun j => !(((qs.filter fun q => decide (q.2.1 = j)).map fun q => decide (q.1 ∈ (rkF qs n t).2)).any id)) (f := nI) (edi_lst (ed_nm 3 (by kernel_rfl) rfl)) (by omega) (fun y hy => ⟨_, _, (by simp), (gd_nm nd 6 (by kernel_rfl)), (etds_one (etd_not (etd_val (ed_blt (by kernel_rfl) (H.free 64) PyProof.Rows.boot_any (eda_cons (EdN.ed (EdN.is (edn_lc nd [("i", 7), ("other", 8), ("start", 9)] (by kernel_rfl) (ys := qs) (enc := dE) (t := fun q => decide (q.2.1 = y)) (f := fun q => .bl (decide (q.1 ∈ (rkF qs n t).2))) (edi_lst (ed_nm 1 (by kernel_rfl) rfl)) hq (fun q hq => ⟨_, _, (by simp), (gd_tup (gds_cons (gd_nm nd 7 (by kernel_rfl)) (gds_cons (gd_nm nd 8 (by kernel_rfl)) (gds_cons (gd_nm nd 9 (by kernel_rfl)) gds_nil)))), (etds_one (etd_cmp (ed_nm 8 (by kernel_rfl) rfl) (ed_nm 6 (by kernel_rfl) rfl) o_eqN)), fun ht => (ed_cmp (ed_nm 7 (by kernel_rfl) rfl) (ed_nm 3 (by kernel_rfl) rfl) o_inN)⟩)) (show _ = ((qs.filter fun q => decide (q.2.1 = y)).map fun q => decide (q.1 ∈ (rkF qs n t).2)).map Dat.bl by rw [List.map_map]; rfl))) eda_nil) (fun K k => c_any k))))), fun ht => (ed_nm 6 (by kernel_rfl) rfl)⟩)) (show _ = (freeF qs (rkF qs n t).2).map nI from rfl)) (by kernel_rfl) ?_)⟩
    refine x_freeze (i := 5) rfl ?_
    refine x_one (xd_if (etd_cmp (ed_nm 5 (by kernel_rfl) rfl) (EdN.ed (edn_lst eda_nil)) (o_neN0 hr)) (fun h => ?_) fun h => x_nil ⟨rfl, .dat (.int (t : Nat)), .dat (.lst ((freeF qs (rkF qs n t).2).map nI)), ?_⟩)
    · cases hf : freeF qs (rkF qs n t).2 with
      | nil => rw [hf] at h; exact absurd rfl (of_decide_eq_true h)
      | cons j js =>
        refine x_cons (x_app 2 (by kernel_rfl) rfl (by rw [List.length_map]; omega) (Ed.ev (d := nI j) (ed_ix (ed_nm 5 (by kernel_rfl) rfl) ed_int (.lst (at0 _ _))) ?_))
        refine x_cons (xd_setNc nd 3 (by kernel_rfl) (by simp) (edn_lc nd [("j", 6)] (by kernel_rfl) (ys := (rkF qs n t).2) (enc := nI) (t := fun x => decide (x ≠ j)) (f := nI) (edi_lst (ed_nm 3 (by kernel_rfl) rfl)) (by omega) (fun y hy => ⟨_, _, (by simp), (gd_nm nd 6 (by kernel_rfl)), (etds_one (etd_cmp (ed_nm 6 (by kernel_rfl) rfl) (ed_ix (ed_nm 5 (by kernel_rfl) rfl) ed_int (.lst (at0 _ _))) o_neN)), fun ht => (ed_nm 6 (by kernel_rfl) rfl)⟩)) (by kernel_rfl) ?_)
        refine x_freeze (i := 3) rfl (x_nil ⟨rfl, .dat (.int (t : Nat)), .dat (.lst ((j :: js).map nI)), ?_⟩)
        have e : rkF qs n (t + 1) = ((rkF qs n t).1 ++ [j], (rkF qs n t).2.filter fun x => decide (x ≠ j)) := by rw [rkF, hf]
        rw [e]
        simp
    · have hf : freeF qs (rkF qs n t).2 = [] := by simpa using h
      have e : rkF qs n (t + 1) = rkF qs n t := by rw [rkF, hf]
      rw [e]
      rfl
  · subst e1 e2
    rw [rgD_len, Int.toNat_natCast]
    exact x_freeze (i := 2) rfl (x_one (x_ret (Ed.ev (ed_tup (eda_cons (ed_nm 2 (by kernel_rfl) rfl) (eda_cons (ed_nm 3 (by kernel_rfl) rfl) eda_nil)) (by simp)) rfl)))
end Kb
namespace Kb
/-! rounds of ranked: what is left has no free one -/
theorem freeF_sub {qs : List Dm} {l : List Nat} : ∀ j ∈ freeF qs l, j ∈ l := fun j h => (List.mem_filter.mp h).1
theorem rkF_left (qs : List Dm) (cnt : Nat) : ∀ t, t ≤ cnt → freeF qs (rkF qs cnt t).2 = [] ∨ ((rkF qs cnt t).2.length + t ≤ cnt)
  | 0, _ => .inr (by simp [rkF])
  | t + 1, ht => by
    rcases rkF_left qs cnt t (by omega) with ih | ih
    · refine .inl ?_
      rw [rkF, ih]
      exact ih
    · cases hf : freeF qs (rkF qs cnt t).2 with
      | nil =>
        refine .inl ?_
        rw [rkF, hf]
        exact hf
      | cons j js =>
        refine .inr ?_
        rw [rkF, hf]
        have hj : j ∈ (rkF qs cnt t).2 := freeF_sub j (by rw [hf]; exact List.mem_cons_self)
        have : ((rkF qs cnt t).2.filter fun x => decide (x ≠ j)).length < (rkF qs cnt t).2.length := by
          rw [List.length_filter_lt_length_iff_exists]
          exact ⟨j, hj, by simp⟩
        show ((rkF qs cnt t).2.filter fun x => decide (x ≠ j)).length + (t + 1) ≤ cnt
        omega
def leftF (qs : List Dm) (n : Nat) : List Nat := (rkF qs n n).2
theorem leftF_pred {qs : List Dm} {n : Nat} {j : Nat} (hj : j ∈ leftF qs n) : ∃ q ∈ qs, q.2.1 = j ∧ q.1 ∈ leftF qs n := by
  rcases rkF_left qs n n (Nat.le_refl _) with h | h
  · have hn : j ∉ freeF qs (leftF qs n) := by
      show j ∉ freeF qs (rkF qs n n).2
      rw [h]
      exact List.not_mem_nil
    unfold freeF at hn
    rw [List.mem_filter] at hn
    have h2 : (((qs.filter fun q => decide (q.2.1 = j)).map fun q => decide (q.1 ∈ leftF qs n)).any id) = true := by
      cases z : (((qs.filter fun q => decide (q.2.1 = j)).map fun q => decide (q.1 ∈ leftF qs n)).any id) with
      | true => rfl
      | false => exact absurd ⟨hj, by rw [z]; rfl⟩ hn
    obtain ⟨b, hb, e⟩ := List.any_eq_true.mp h2
    obtain ⟨q, hq, rfl⟩ := List.mem_map.mp hb
    obtain ⟨hq1, hq2⟩ := List.mem_filter.mp hq
    exact ⟨q, hq1, of_decide_eq_true hq2, of_decide_eq_true e⟩
  · have : (leftF qs n).length = 0 := by unfold leftF; omega
    rw [List.length_eq_zero_iff.mp this] at hj
    cases hj
theorem rkF_nodup (qs : List Dm) (n : Nat) : ∀ t, (rkF qs n t).2.Nodup
  | 0 => List.nodup_range
  | t + 1 => by
    have ih := rkF_nodup qs n t
    rw [rkF]
    split
    · exact ih
    · exact ih.filter _
theorem leftF_nd (qs : List Dm) (n : Nat) : (leftF qs n).Nodup := rkF_nodup qs n n
theorem leftF_len (qs : List Dm) (n : Nat) : (leftF qs n).length ≤ n := (rkF_len qs n n).2
/-! the way back -/
def prF (qs : List Dm) (left : List Nat) (j : Nat) : List Dm := qs.filter fun q => decide (q.2.1 = j) && decide (q.1 ∈ left)
def stF (qs : List Dm) (left : List Nat) (j : Nat) : Dm := (prF qs left j).headD (0, 0, 0)
theorem prF_cons {qs : List Dm} {n j : Nat} (hj : j ∈ leftF qs n) : ∃ l, prF qs (leftF qs n) j = stF qs (leftF qs n) j :: l := by
  obtain ⟨q, h1, h2, h3⟩ := leftF_pred hj
  have : q ∈ prF qs (leftF qs n) j := List.mem_filter.mpr ⟨h1, by simp [h2, h3]⟩
  unfold stF
  cases e : prF qs (leftF qs n) j with
  | nil => rw [e] at this; cases this
  | cons a l => exact ⟨l, rfl⟩
theorem stF_is {qs : List Dm} {n j : Nat} (hj : j ∈ leftF qs n) : stF qs (leftF qs n) j ∈ qs ∧ (stF qs (leftF qs n) j).2.1 = j ∧ (stF qs (leftF qs n) j).1 ∈ leftF qs n := by
  obtain ⟨l, e⟩ := prF_cons hj
  have : stF qs (leftF qs n) j ∈ prF qs (leftF qs n) j := by rw [e]; exact List.mem_cons_self
  obtain ⟨h1, h2⟩ := List.mem_filter.mp this
  simp at h2
  exact ⟨h1, h2.1, h2.2⟩
abbrev sec (q : Dm) : Nat := q.2.1
structure Wk (qs : List Dm) (left : List Nat) (way : List Dm) (at_ : Nat) : Prop where
  mem : ∀ q ∈ way, q ∈ qs
  inl : ∀ q ∈ way, sec q ∈ left
  here : at_ ∈ left
  nd : (way.map sec).Nodup
  link : ∃ h, way.map sec ++ [at_] = h :: way.map (·.1)
theorem Wk.step {qs : List Dm} {n : Nat} {way : List Dm} {at_ : Nat} (w : Wk qs (leftF qs n) way at_) (hn : at_ ∉ way.map sec) : Wk qs (leftF qs n) (way ++ [stF qs (leftF qs n) at_]) (stF qs (leftF qs n) at_).1 := by
  obtain ⟨h1, h2, h3⟩ := stF_is w.here
  obtain ⟨h, e⟩ := w.link
  refine ⟨?_, ?_, h3, ?_, h, ?_⟩
  · intro q hq
    rcases List.mem_append.mp hq with z | z
    · exact w.mem q z
    · rw [List.mem_singleton.mp z]; exact h1
  · intro q hq
    rcases List.mem_append.mp hq with z | z
    · exact w.inl q z
    · rw [List.mem_singleton.mp z]; show (stF qs (leftF qs n) at_).2.1 ∈ _; rw [h2]; exact w.here
  · rw [List.map_append, List.nodup_append]
    refine ⟨w.nd, by simp, ?_⟩
    intro a ha b hb
    rw [List.map_singleton, List.mem_singleton] at hb
    rw [hb]
    show a ≠ (stF qs (leftF qs n) at_).2.1
    rw [h2]
    rintro rfl
    exact hn ha
  · rw [List.map_append, List.map_append, List.map_singleton, List.map_singleton]
    show way.map sec ++ [(stF qs (leftF qs n) at_).2.1] ++ [(stF qs (leftF qs n) at_).1] = _
    rw [h2, e]
    rfl
theorem Wk.len {qs : List Dm} {n : Nat} {way : List Dm} {at_ : Nat} (w : Wk qs (leftF qs n) way at_) : way.length ≤ n := by
  have h : (way.map sec).length ≤ (leftF qs n).length := nodup_len w.nd fun x hx => by
    obtain ⟨q, hq, rfl⟩ := List.mem_map.mp hx
    exact w.inl q hq
  rw [List.length_map] at h
  exact Nat.le_trans h (leftF_len qs n)
def wkF (qs : List Dm) (left : List Nat) : Nat → List Dm → Nat → List Dm × Nat
  | 0, way, a => (way, a)
  | f + 1, way, a => if a ∈ way.map sec then (way, a) else wkF qs left f (way ++ [stF qs left a]) (stF qs left a).1
theorem wkF_end {qs : List Dm} {left : List Nat} {f : Nat} {way : List Dm} {a : Nat} (h : a ∈ way.map sec) : wkF qs left f way a = (way, a) := by
  cases f with
  | zero => rfl
  | succ f => rw [wkF, if_pos h]
theorem wkF_ok {qs : List Dm} {n : Nat} : ∀ (f : Nat) (way : List Dm) (a : Nat), Wk qs (leftF qs n) way a → n < way.length + f → Wk qs (leftF qs n) (wkF qs (leftF qs n) f way a).1 (wkF qs (leftF qs n) f way a).2 ∧ (wkF qs (leftF qs n) f way a).2 ∈ (wkF qs (leftF qs n) f way a).1.map sec
  | 0, way, a, w, h => absurd w.len (by omega)
  | f + 1, way, a, w, h => by
    rw [wkF]
    split
    · exact ⟨w, by assumption⟩
    · exact wkF_ok f _ _ (w.step (by assumption)) (by rw [List.length_append, List.length_singleton]; omega)
def ringOf (qs : List Dm) (n : Nat) : Option (List Dm) := match leftF qs n with
  | [] => none
  | a :: _ => some ((wkF qs (leftF qs n) (n + 1) [] a).1.drop (((wkF qs (leftF qs n) (n + 1) [] a).1.map sec).idxOf (wkF qs (leftF qs n) (n + 1) [] a).2)).reverse
/-- what find_ring's ring is -/
theorem ringOf_ok {qs : List Dm} {n : Nat} {rg : List Dm} (h : ringOf qs n = some rg) : rg ≠ [] ∧ rg.length ≤ n ∧ (∀ q ∈ rg, q ∈ qs) ∧ rg.map sec = (rg.map (·.1)).drop 1 ++ (rg.map (·.1)).take 1 ∧ (rg.map (·.1)).Nodup := by
  unfold ringOf at h
  cases hl : leftF qs n with
  | nil => rw [hl] at h; cases h
  | cons a l =>
    rw [hl] at h
    have h0 : Wk qs (leftF qs n) [] a := { mem := fun q z => absurd z List.not_mem_nil, inl := fun q z => absurd z List.not_mem_nil, here := (by rw [hl]; exact List.mem_cons_self), nd := List.nodup_nil, link := ⟨a, rfl⟩ }
    obtain ⟨w, hx⟩ := wkF_ok (n + 1) [] a h0 (by simp)
    simp only at h
    rw [hl] at w hx
    revert h w hx
    generalize (wkF qs (a :: l) (n + 1) [] a) = r
    obtain ⟨way, b⟩ := r
    intro h w hx
    have e := Option.some.inj h
    clear h
    simp only at e w hx
    rw [← hl] at w
    obtain ⟨k, hk⟩ : ∃ k, k = (way.map sec).idxOf b := ⟨_, rfl⟩
    rw [← hk] at e
    have hkl : k < (way.map sec).length := by rw [hk]; exact List.idxOf_lt_length_iff.mpr hx
    have hkb : (way.map sec)[k] = b := by subst hk; exact List.getElem_idxOf hkl
    -- the ring before it is turned
    obtain ⟨w2, hw2⟩ : ∃ w2, w2 = way.drop k := ⟨_, rfl⟩
    rw [← hw2] at e
    have hs : w2.map sec = b :: (way.map sec).drop (k + 1) := by
      rw [hw2, List.map_drop, List.drop_eq_getElem_cons hkl, hkb]
    have hlink : w2.map sec ++ [b] = b :: w2.map (·.1) := by
      obtain ⟨h, e2⟩ := w.link
      have e3 : (way.map sec ++ [b]).drop k = (h :: way.map (·.1)).drop k := by rw [e2]
      rw [List.drop_append_of_le_length (by omega), ← List.map_drop, ← hw2] at e3
      rw [e3]
      have e4 : (h :: way.map (·.1)).drop (k + 1) = w2.map (·.1) := by rw [List.drop_succ_cons, hw2, List.map_drop]
      rw [← e4]
      have hl2 : k < (h :: way.map (·.1)).length := by
        rw [List.length_cons, List.length_map]
        rw [List.length_map] at hkl
        omega
      rw [List.drop_eq_getElem_cons hl2]
      congr 1
      have : ((h :: way.map (·.1)).drop k)[0]? = (w2.map sec ++ [b])[0]? := by rw [e3]
      rw [hs, List.drop_eq_getElem_cons hl2] at this
      simpa using this
    have hf : w2.map (·.1) = (way.map sec).drop (k + 1) ++ [b] := by
      rw [hs] at hlink
      exact (List.cons.inj hlink).2.symm
    subst e
    refine ⟨?_, ?_, ?_, ?_, ?_⟩
    · intro z
      rw [List.reverse_eq_nil_iff] at z
      rw [z] at hs
      cases hs
    · rw [List.length_reverse, hw2, List.length_drop]
      exact Nat.le_trans (Nat.sub_le _ _) w.len
    · intro q hq
      rw [List.mem_reverse, hw2] at hq
      exact w.mem q (List.mem_of_mem_drop hq)
    · rw [List.map_reverse, List.map_reverse, hs, hf, List.reverse_cons, List.reverse_append]
      rfl
    · rw [List.map_reverse, hf, List.reverse_append]
      have h3 : (w2.map sec).Nodup := by rw [hw2, List.map_drop]; exact w.nd.sublist (List.drop_sublist _ _)
      rw [hs, List.nodup_cons] at h3
      show (b :: ((way.map sec).drop (k + 1)).reverse).Nodup
      rw [List.nodup_cons, List.mem_reverse]
      exact ⟨h3.1, (List.reverse_perm _).nodup_iff.mpr h3.2⟩
end Kb
namespace Kb
open PySem PySem.Spec PyProof.Rows L2
section
variable {S : Sg} {g : Wd} {e : Expr} {ρ : En} {n : Nat}
/-- a test reads an own list -/
theorem et_peek {K : Nat → Bool → Prop} {i : Nat} {xs : List Dat} (hi : ρ[i]? = some (.own xs)) (h : EvT S g e (ρ.set i (.dat (.lst xs))) n K) : EvT S g e ρ n K := fun M Hb ad σ H E Q q => h M Hb ad σ H (E.freeze hi) Q q
/-- .. a number is read from it -/
theorem ev_peek {K : Nat → Dat → Prop} {i : Nat} {xs : List Dat} (hi : ρ[i]? = some (.own xs)) (h : Ev S g e (ρ.set i (.dat (.lst xs))) n fun n d => (∃ z, d = .int z) ∧ K n d) : Ev S g e ρ n K := fun M Hb ad σ H E Q q =>
  h M Hb ad σ H (E.freeze hi) Q fun n' v H' d k j a ⟨⟨z, ez⟩, kd⟩ => by
    subst ez
    exact q n' v H' _ k j (by rw [at_int a]; exact At.int) kd
end
theorem cutD_fromN (xs : List Dat) (k : Nat) : cutD xs (some (k : Int)) none = xs.drop k := by
  cases k with
  | zero =>
    unfold cutD
    rw [show ((0 : Nat) : Int) = ((0 : Nat) : Int) from rfl, HT.sIx_nat, HT.sIx_none]
    simp
  | succ k => exact cutD_from xs k
theorem dmF_len {m : Ms} {cat : List Jb} (h : cat.length ≤ 4) : (demandsF m cat).length ≤ 16 := by
  have h1 := fm_len (l := List.range cat.length) (k := 4) (f := fun i => (List.range cat.length).filterMap fun j => dmAt m cat i j) fun y _ => by
    have := dm_len m cat y (List.range cat.length)
    rw [List.length_range] at this
    omega
  rw [List.length_range] at h1
  exact Nat.le_trans h1 (by omega)
abbrev N_find_ring : List Str := ["measure", "catalogue", "some", "left", "way", "at", "step", "first", "one"]
theorem sc_find_ring : FnScope N_find_ring ["measure", "catalogue"] (defScope s_find_ring) := ⟨rfl, rfl, rfl, by decide +kernel, rfl, by decide +kernel, by decide +kernel⟩
def ringD : Option (List Dm) → Dat
  | none => .non
  | some rg => .tup (rg.map dE)
def R_find_ring (ds : List Dat) (d : Dat) : Prop := ∃ (m : Ms) (cat : List Jb), ds = [m.enc, .tup (cat.map Jb.enc)] ∧ m.Ok ∧ okCat m cat ∧ d = ringD (ringOf (demandsF m cat) cat.length)
theorem ok_find_ring {G : Gc} (H : Head G) : HasF G "find_ring" 7 2 (PureSp 2 R_find_ring) := by
  refine H.pure (st := s_find_ring) (ps := ["measure", "catalogue"]) 36 28 (by kernel_rfl) (by kernel_rfl) sc_find_ring (fun _ _ _ _ _ _ us hl => match us, hl with | [_, _], _ => rfl) fun A hr ds d hl hR => ?_
  have nd := sc_find_ring.nd
  obtain ⟨m, cat, rfl, ho, hc, rfl⟩ := hR
  have hql := dmF_len (m := m) hc.1
  refine x_cons (xd_set nd 2 (by kernel_rfl) (ed_call (ok_demands H) (hr.mono (by decide)) (by kernel_rfl) (eda_cons (ed_nm 0 (by kernel_rfl) rfl) (eda_cons (ed_nm 1 (by kernel_rfl) rfl) eda_nil)) ⟨m, cat, rfl, ho, hc, rfl⟩) ?_)
  refine x_cons (xd_set nd 3 (by kernel_rfl) (ed_ix (ed_call (ok_ranked H) (hr.mono (by decide)) (by kernel_rfl) (eda_cons (ed_len (xs := cat.map Jb.enc) (by kernel_rfl) (H.free 69) (ed_nm 1 (by kernel_rfl) rfl) (by exact rfl)) (eda_cons (ed_nm 2 (by kernel_rfl) rfl) eda_nil)) ⟨cat.length, demandsF m cat, by rw [List.length_map], by have := hc.1; omega, by omega, rfl⟩) ed_int (.tup rfl)) ?_)
  have hL : leftF (demandsF m cat) cat.length = (rkF (demandsF m cat) cat.length cat.length).2 := rfl
  rw [← hL]
  obtain ⟨left, el⟩ : ∃ l, l = leftF (demandsF m cat) cat.length := ⟨_, rfl⟩
  rw [← el]
  have hln := leftF_len (demandsF m cat) cat.length
  rw [← el] at hln
  refine x_cons (xd_if (etd_cmp (ed_nm 3 (by kernel_rfl) rfl) (EdN.ed (edn_lst eda_nil)) (o_eqN0 hr)) (fun h => ?_) fun h => x_nil ?_)
  · have h0 : left = [] := of_decide_eq_true h
    refine x_one (x_ret (Ed.ev ed_non ?_))
    unfold ringOf
    rw [← el, h0]
    rfl
  cases hc0 : left with
  | nil => rw [hc0] at h; exact absurd rfl (of_decide_eq_false h)
  | cons a l =>
    have hrg : ringOf (demandsF m cat) cat.length = some ((wkF (demandsF m cat) left (cat.length + 1) [] a).1.drop (((wkF (demandsF m cat) left (cat.length + 1) [] a).1.map sec).idxOf (wkF (demandsF m cat) left (cat.length + 1) [] a).2)).reverse := by
      unfold ringOf
      rw [← el, hc0]
    rw [hrg]
    have h0 : Wk (demandsF m cat) left [] a := { mem := fun q z => absurd z List.not_mem_nil, inl := fun q z => absurd z List.not_mem_nil, here := (by rw [hc0]; exact List.mem_cons_self), nd := List.nodup_nil, link := ⟨a, rfl⟩ }
    have hend := wkF_ok (cat.length + 1) [] a (el ▸ h0) (by simp)
    rw [← el] at hend
    rw [← hc0]
    refine x_cons (x_pack nd [4, 5] (.cons (by kernel_rfl) (.cons (by kernel_rfl) .nil)) (by simp [startE]) (by decide) (era_new (EdN.ev (edn_lst eda_nil) (era_dat (Ed.ev (d := nI a) (ed_ix (ed_nm 3 (by kernel_rfl) rfl) ed_int (.lst (by rw [hc0]; exact at0 _ _))) (era_nil ⟨rfl, ?_⟩))))) (by kernel_rfl))
    obtain ⟨w9, ew9⟩ : ∃ w, w = wkF (demandsF m cat) left (cat.length + 1) [] a := ⟨_, rfl⟩
    rw [← ew9] at hend ⊢
    refine x_cons (x_while (fun k n ρ => n = 0 ∧ ∃ way b s, ρ = [.dat m.enc, .dat (.tup (cat.map Jb.enc)), .dat (.lst ((demandsF m cat).map dE)), .dat (.lst (left.map nI)), .own (way.map dE), .dat (nI b), s, .no, .no] ∧ Wk (demandsF m cat) left way b ∧ way.length + k = cat.length + 1 ∧ w9 = wkF (demandsF m cat) left k way b) (cat.length + 1) ⟨rfl, [], a, .no, rfl, h0, by simp, ew9⟩ (fun k n1 ρ1 ⟨e1, way, b, s, e2, w, hk, hw⟩ => ?_))
    subst e1 e2
    have hwl : way.length ≤ cat.length := by
      have w' := w
      rw [el] at w'
      exact w'.len
    have hc4 := hc.1
    refine et_peek (i := 4) rfl (EdT.ev (etd_cmp (ed_nm 5 (by kernel_rfl) rfl) (EdN.ed (EdN.is (edn_lcm nd [("one", 8)] (by kernel_rfl) (ys := way) (enc := dE) (f := fun q => nI (sec q)) (edi_lst (ed_nm 4 (by kernel_rfl) rfl)) (by omega) (fun y hy => ⟨_, _, (by simp), (gd_nm nd 8 (by kernel_rfl)), (ed_ix (ed_nm 8 (by kernel_rfl) rfl) ed_int (.tup rfl))⟩)) (show _ = (way.map sec).map nI by rw [List.map_map]; rfl))) o_ninN) ⟨fun h => ?_, fun h => ?_⟩)
    · have hn : b ∉ way.map sec := of_decide_eq_true h
      cases k with
      | zero => omega
      | succ k =>
        have hp := prF_cons (qs := demandsF m cat) (n := cat.length) (j := b) (by rw [← el]; exact w.here)
        rw [← el] at hp
        obtain ⟨l2, hp⟩ := hp
        have w' := w
        rw [el] at w'
        have hst := w'.step hn
        rw [← el] at hst
        rw [wkF, if_neg hn] at hw
        refine x_cons (xd_set nd 6 (by kernel_rfl) (ed_ix (x := .lst ((stF (demandsF m cat) left b :: l2).map dE)) (z := dE (stF (demandsF m cat) left b)) (EdN.ed (EdN.is (edn_lc nd [("one", 8)] (by kernel_rfl) (ys := demandsF m cat) (enc := dE) (t := fun q => decide (q.2.1 = b) && decide (q.1 ∈ left)) (f := dE) (edi_lst (ed_nm 2 (by kernel_rfl) rfl)) (by omega) (fun y hy => ⟨_, _, (by simp), (gd_nm nd 8 (by kernel_rfl)), (etds_one (etd_w (ewd_and (etd_cmp (ed_ix (ed_nm 8 (by kernel_rfl) rfl) ed_int (.tup rfl)) (ed_nm 5 (by kernel_rfl) rfl) o_eqN) (fun h => (ewd_and1 (etd_cmp (ed_ix (ed_nm 8 (by kernel_rfl) rfl) ed_int (.tup rfl)) (ed_nm 3 (by kernel_rfl) rfl) o_inN)))))), fun ht => (ed_nm 8 (by kernel_rfl) rfl)⟩)) (show _ = (stF (demandsF m cat) left b :: l2).map dE by rw [← hp]; rfl))) ed_int (.lst (by rw [show (0 : Int) = ((0 : Nat) : Int) from rfl, atI_nat]; rfl))) ?_)
        refine x_cons (x_app 4 (by kernel_rfl) rfl (by rw [List.length_map]; omega) (Ed.ev (d := dE (stF (demandsF m cat) left b)) (ed_nm 6 (by kernel_rfl) rfl) ?_))
        refine x_one (xd_set nd 5 (by kernel_rfl) (ed_ix (z := nI (stF (demandsF m cat) left b).1) (ed_nm 6 (by kernel_rfl) rfl) ed_int (.tup rfl)) ?_)
        refine ⟨k, by omega, rfl, way ++ [stF (demandsF m cat) left b], (stF (demandsF m cat) left b).1, .dat (dE (stF (demandsF m cat) left b)), ?_, hst, by rw [List.length_append, List.length_singleton]; omega, hw⟩
        simp
    · have hn : b ∈ way.map sec := Classical.byContradiction fun z => (of_decide_eq_false h) z
      rw [wkF_end hn] at hw
      subst hw
      refine x_freeze (i := 4) rfl ?_
      have hkl : (way.map sec).idxOf b < (way.map sec).length := List.idxOf_lt_length_iff.mpr hn
      refine x_cons (x_set nd 7 (by kernel_rfl) (ev_index (Ed.ev (EdN.ed (EdN.is (edn_lcm nd [("one", 8)] (by kernel_rfl) (ys := way) (enc := dE) (f := fun q => nI (sec q)) (edi_lst (ed_nm 4 (by kernel_rfl) rfl)) (by omega) (fun y hy => ⟨_, _, (by simp), (gd_nm nd 8 (by kernel_rfl)), (ed_ix (ed_nm 8 (by kernel_rfl) rfl) ed_int (.tup rfl))⟩)) (show _ = ((way.map sec).map fun i => ((i : Nat) : Int)).map Dat.int by rw [← nI_map, List.map_map]; rfl))) ⟨_, rfl, Ed.ev (ed_nm 5 (by kernel_rfl) rfl) ⟨(b : Int), (way.map sec).idxOf b, rfl, ?_, ?_, ?_⟩⟩)))
      · rw [List.getElem?_map, List.getElem?_eq_getElem hkl, List.getElem_idxOf hkl]
        rfl
      · intro t ht e
        rw [List.getElem?_map] at e
        cases hq : (way.map sec)[t]? with
        | none => rw [hq] at e; cases e
        | some z =>
          rw [hq] at e
          have ez : z = b := by
            have : ((z : Nat) : Int) = (b : Int) := by simpa using e
            omega
          obtain ⟨h1, h2⟩ := List.getElem?_eq_some_iff.mp hq
          have := List.not_of_lt_findIdx (p := fun x => x == b) (xs := way.map sec) (i := t) ht
          simp only [h2, ez, beq_self_eq_true] at this
          exact absurd this (by simp)
      · refine x_one (x_ret (Ed.ev (ed_tupleL (by kernel_rfl) (H.free 78) (EdN.ed (edn_rev (EdN.ed (edn_slice (ed_nm 4 (by kernel_rfl) rfl) (.some (ed_nm 7 (by kernel_rfl) rfl)) .none))))) ?_))
        rw [cutD_fromN]
        show _ = Dat.tup _
        rw [List.map_reverse, List.map_drop]
end Kb
/-! an instance: its attributes, its methods -/
namespace Kb
open PySem PySem.Spec PyProof.Rows L2
def tabC (G : Gc) : Addr := He.ga G.K "Table"
section
variable {G : Gc}
theorem Head.cls (H : Head G) : Cls G.K (tabC G) := He.cls_ok (H.says.fact 80 (by kernel_rfl))
theorem Head.noat (H : Head G) {f : Str} (i : Nat) (h : fa[i]? = some (.noat "Table" f) := by kernel_rfl) : NoAttr G.K (tabC G) f := He.noat_ok (H.says.fact i h)
theorem Head.mth (H : Head G) {m : Str} (i : Nat) (h : fa[i]? = some (.meth "Table" m) := by kernel_rfl) : Meth G.K (tabC G) m (He.ma G.K (tabC G) m) := He.meth_ok (H.says.fact i h)
theorem Head.mkr (H : Head G) : Mk G.K (tabC G) (He.ma G.K (tabC G) "__init__") := He.mkr_ok (H.says.fact 81 (by kernel_rfl))
/-- a method that keeps a promise -/
def HasM (G : Gc) (m : Str) (k np : Nat) (sp : Sp) : Prop := ∃ fd ps, Meth G.K (tabC G) m (He.ma G.K (tabC G) m) ∧ Binds G.K fd ps [] ∧ ps.length = np ∧ FnOk G.P G.w G.K G.mg G.base CX0 k (He.ma G.K (tabC G) m) fd ps sp
theorem HasM.imp {m : Str} {k np : Nat} {sp sp' : Sp} (h : HasM G m k np sp) (i : ∀ vs H Q E, sp' vs H Q E → sp vs H Q E) : HasM G m k np sp' := by
  obtain ⟨fd, ps, h1, h2, h3, h4⟩ := h
  exact ⟨fd, ps, h1, h2, h3, h4.imp i⟩
theorem Head.pmeth (H : Head G) {x q : Str} {st : Stmt} {N ps : List Str} {k : Nat} {R : List Dat → Dat → Prop} (i j : Nat) (hi : fn[i]? = some ⟨("Table", some x), x, q, defArgs st, defBody st, defScope st, [], []⟩) (hj : fa[j]? = some (.meth "Table" x)) (Sc : FnScope N ps (defScope st))
    (hb : ∀ (kV doc pm : Value) (an : Option Addr) (cdv ct : Value) (us : List Value), us.length = ps.length → bindArgs (PySem.W.fnOf x q (defArgs st) (defBody st) (defScope st) .none kV doc pm an cdv ct) ⟨us, []⟩ = Pure.pure (ps.zip us))
    (h : ∀ A, Room k A → ∀ ds d, ds.length = ps.length → R ds d → Ex (G.sg A N (defScope st)) wd0 (defBody st) (startE N (ds.map Sl.dat)) 0 { nx := fun _ _ => d = .non, rt := fun _ d' => d' = d }) : HasM G x (k + 1) ps.length (PureSp ps.length R) := by
  obtain ⟨fd, F⟩ := H.says.def_ i hi
  exact ⟨fd, ps, H.mth j hj, F.bindsN hb, rfl, pure_ok F Sc h⟩
end
section
variable {S : Sg} {g : Wd} {o e : Expr} {es : List Expr} {ρ : En} {n : Nat} {pos apos p : Pos} {f m x : Str} {d : Dat} {ns : List Str} {l : List Dat} {oa : Addr}
theorem look_at {fs : List (Str × V)} {ns : List Str} {vs : List V} (h : ns.map (fun f => fs.lookup f) = vs.map some) {i : Nat} {f : Str} {v : V} (hf : ns[i]? = some f) (hv : vs[i]? = some v) : fs.lookup f = some v := by
  have := congrArg (fun l => l[i]?) h
  simp only [List.getElem?_map, hf, hv, Option.map_some] at this
  exact Option.some.inj this
theorem look_none {fs : List (Str × V)} {m : Str} (h : m ∉ fs.map (·.1)) : fs.lookup m = none := by
  induction fs with
  | nil => rfl
  | cons q fs ih =>
    simp only [List.map_cons, List.mem_cons, not_or] at h
    rw [List.lookup_cons]
    have : (m == q.1) = false := by simpa using h.1
    rw [this]
    exact ih h.2
theorem ed_fld (cls : Cls S.K (tabC S.gc)) (na : NoAttr S.K (tabC S.gc) f) (h : Ed S g e ρ (.obj oa (tabC S.gc) ns l)) (i : Nat) (hi : ns[i]? = some f) (hd : l[i]? = some d) (hb : ∀ env, attributeBase e f env (eval e env) = eval e env := by intro _; rfl) : Ed S g (.Attribute e f pos) ρ d := fun n M Hb ad σ H E Q q =>
  ⟨tFld S.K (wE S e) f, fun X c => by rw [← c.K]; exact pe_fld (wE_ok c) (hb _), h n M Hb ad σ H E _ fun n1 v H1 d1 k j a1 ⟨e1, e2⟩ => by
    subst e1 e2
    obtain ⟨dx, fs, vs, rfl, nm, ha, hk, hl, hs⟩ := at_obj a1
    obtain ⟨u, hu, au⟩ := hs.get hd
    exact ⟨oa, _, dx, fs, u, rfl, ha, cls, na, look_at hl hi hu, q _ u H1 d k j au ⟨rfl, rfl⟩⟩⟩
theorem ed_meth {k np : Nat} {R : List Dat → Dat → Prop} {ds : List Dat} (F : HasM S.gc m k np (PureSp np R)) (cls : Cls S.K (tabC S.gc)) (hr : Room k S.A) (ho : Ed S g o ρ (.obj oa (tabC S.gc) ns l)) (hm : m ∉ tabKeys) (h : EdA S g (e :: es) ρ ds) (hR : R (.obj oa (tabC S.gc) ns l :: ds) d) (hl : ds.length + 1 = np := by rfl)
    (he : ∀ env, starEach (e :: es) env = (false, eval e env) :: starEach es env := by intro _; rfl) (hpl : ∀ env, (backTo pos (starEach es env)).any (·.1) = false := by intro _; rfl)
    (ht : ∀ env, ∃ pl : Sem Bool, eval (.Call (.Attribute o m apos) (e :: es) [] pos) env = (do
      let ov ← eval o env
      standAt apos.atName
      let (f, first) ← holding [ov] (getMethod ov m pl)
      callWith pos f first (backTo pos (starEach (e :: es) env)) (backToKw pos (keywordEach [] env))) := by intro _; exact ⟨_, rfl⟩) : Ed S g (.Call (.Attribute o m apos) (e :: es) [] pos) ρ d := fun n M Hb ad σ H E Q q => by
  obtain ⟨fd, ps, h1, h2, h3, h4⟩ := F
  refine ⟨tMeth (tabC S.gc) m (PureSp np R) [] E0 (wE S o) (wA S (e :: es)), fun X c => ?_, ?_⟩
  · have F' : FnOk X.prog X.w X.K X.mg X.base CX0 k (He.ma S.gc.K (tabC S.gc) m) fd ps (PureSp np R) := by rw [c.P, c.w, c.K, c.mg, c.base]; exact h4
    obtain ⟨pl, ht⟩ := ht X.env
    exact pe_meth (pl := pl) (wE_ok c) (by rw [c.K]; exact cls) (by rw [c.K]; exact h1) F' (by rw [c.A]; exact hr) (by rw [c.K]; exact h2) .nil pass0 (wA_ok c) (he _) (hpl _) ht
  · refine ho n M Hb ad σ H E _ fun n1 v H1 d1 k1 j1 a1 ⟨e1, e2⟩ => ?_
    subst e1 e2
    obtain ⟨dx, fs, vs, rfl, nm, ha, hk, hl', hs⟩ := at_obj a1
    refine ⟨oa, dx, fs, rfl, ha, look_none (fun z => hm (hk _ z)), h _ M Hb ad σ H1 (E.keep k1 j1) _ fun n2 ws H2 ds2 k2 j2 a2 ⟨e3, e4⟩ => ?_⟩
    subst e3 e4
    rw [List.append_nil]
    exact ⟨Mx M ad ρ, .obj oa (tabC S.gc) ns l :: ds2, d, fun b z => ((E.keep k1 j1).keep k2 j2).mal z, hl, Ats.cons ((E.keep k1 j1).at_ k2 a1) a2, hR, fun v H' s av => q _ v H' d ((k1.trans k2).trans (Kw.of s)) (g.js _ _ _ j2 s) av ⟨rfl, rfl⟩⟩
theorem ed_meth0 {k : Nat} {R : List Dat → Dat → Prop} (F : HasM S.gc m k 1 (PureSp 1 R)) (cls : Cls S.K (tabC S.gc)) (hr : Room k S.A) (ho : Ed S g o ρ (.obj oa (tabC S.gc) ns l)) (hm : m ∉ tabKeys) (hR : R [.obj oa (tabC S.gc) ns l] d)
    (ht : ∀ env, ∃ pl : Sem Bool, eval (.Call (.Attribute o m apos) [] [] pos) env = (do
      let ov ← eval o env
      standAt apos.atName
      let (f, first) ← holding [ov] (getMethod ov m pl)
      callWith pos f first (backTo pos (starEach [] env)) (backToKw pos (keywordEach [] env))) := by intro _; exact ⟨_, rfl⟩) : Ed S g (.Call (.Attribute o m apos) [] [] pos) ρ d := fun n M Hb ad σ H E Q q => by
  obtain ⟨fd, ps, h1, h2, h3, h4⟩ := F
  refine ⟨tMeth (tabC S.gc) m (PureSp 1 R) [] E0 (wE S o) tNil, fun X c => ?_, ?_⟩
  · have F' : FnOk X.prog X.w X.K X.mg X.base CX0 k (He.ma S.gc.K (tabC S.gc) m) fd ps (PureSp 1 R) := by rw [c.P, c.w, c.K, c.mg, c.base]; exact h4
    obtain ⟨pl, ht⟩ := ht X.env
    exact pe_meth0 (pl := pl) (wE_ok c) (by rw [c.K]; exact cls) (by rw [c.K]; exact h1) F' (by rw [c.A]; exact hr) (by rw [c.K]; exact h2) .nil pass0 ht
  · refine ho n M Hb ad σ H E _ fun n1 v H1 d1 k1 j1 a1 ⟨e1, e2⟩ => ?_
    subst e1 e2
    obtain ⟨dx, fs, vs, rfl, nm, ha, hk, hl', hs⟩ := at_obj a1
    refine ⟨oa, dx, fs, rfl, ha, look_none (fun z => hm (hk _ z)), ?_⟩
    show PureSp 1 R ([V.ref oa]) H1 Q E0
    exact ⟨Mx M ad ρ, _, d, fun b z => (E.keep k1 j1).mal z, rfl, Ats.one a1, hR, fun v H' s av => q _ v H' d (k1.trans (Kw.of s)) (g.js _ _ _ j1 s) av ⟨rfl, rfl⟩⟩
end
end Kb
namespace Kb
open PySem PySem.Spec PyProof.Rows L2
/-! the pen from within: its cells known -/
def penX (p c : Addr) (cells : List Int) : Wd where
  W := fun a => a = p
  F := fun a => a = p ∨ a = c
  J := fun n H => p ≠ c ∧ H c = some (.lst (cells.map V.int)) ∧ ∃ (at_ : Nat) (val : Int), H p = some (.lst [.ref c, .int at_, .int val]) ∧ at_ ≤ n
  wf := fun a h => .inl h
  js := fun n H H' ⟨h1, h3, a, v, h2, h4⟩ s => ⟨h1, s _ _ h3, a, v, s _ _ h2, h4⟩
  jm := fun n H l o ⟨h1, h3, a, v, h2, h4⟩ nf => ⟨h1, by rw [upd_ne fun z => nf (.inr z.symm)]; exact h3, a, v, by rw [upd_ne fun z => nf (.inl z.symm)]; exact h2, h4⟩
  ja := fun n H a ⟨h1, h3, at_, v, h2, h4⟩ h => by
    rcases h with h | h
    · exact ⟨_, by rw [h]; exact h2⟩
    · exact ⟨_, by rw [h]; exact h3⟩
theorem penx_ok {G : Gc} {qual : Str} {params : Arguments} {body : List Stmt} {scope : Scope} {fa : Addr} {fd : FuncData} {N ps : List Str} {k cst : Nat} {Pre : List Dat → Prop} {R : List Dat → Dat → Prop} (F : FunD G.K x qual params body scope [] [] fa fd) (Sc : FnScope N ps scope)
    (h : ∀ A, Room k A → ∀ p c cells n ds, ds.length + 1 = ps.length → Pre ds → n + cst ≤ 100000 → cells.length ≤ 12 → Ex (G.sg A N scope) (penX p c cells) body (startE N (.raw p :: ds.map Sl.dat)) n { nx := fun _ _ => False, rt := fun n' d' => n' ≤ n + cst ∧ R ds d' }) :
    FnOk G.P G.w G.K G.mg G.base CX0 (k + 1) fa fd ps (PenSp ps.length cst Pre R) := by
  have hpl : ps.length ≤ N.length := by have := congrArg List.length Sc.pre; rw [List.length_take] at this; omega
  refine F.ok Sc (fun vs H Q E ⟨M, p, c, k, ds, vs', e, _, _, hl, hs, _⟩ => by rw [e, List.length_cons, hs.len]; exact hl) fun cdv A outer s H vs Q E hr ⟨M, p, c, n, ds, vs', e, al, mp, hl, hs, po, hc, hp, q⟩ => ?_
  subst e
  obtain ⟨h1, at_, val, cells, h2, h3, h4, h5⟩ := po
  refine ⟨wSs (G.sg (A.deeper (envOfC qual scope s.heap.objs.size fa cdv)) N scope) body, (wSs_ok cl_def).nox, ?_⟩
  refine h _ hr p c cells n ds hl hp hc h5 M H (fun _ => 0) _ H _ (env_start (g := penX p c cells) (k := n) [p] al hs ⟨h1, h3, at_, val, h2, h4⟩ (fun a z => by rw [show a = p from z]; exact mp) (by simp only [List.length_cons, List.length_nil]; omega) _) ?_
  exact ⟨fun n ad σ H' ρ E' z => z.elim, fun n' v H' d' kk jj a z => by
    obtain ⟨j1, j3, a9, v9, j2, j4⟩ := jj
    exact q v H' d' kk ⟨j1, a9, v9, cells, j2, j3, by omega, h5⟩ z.2 a, fun _ _ _ _ _ _ z => z.elim, fun _ _ _ _ _ _ z => z.elim⟩
theorem Head.penx {G : Gc} (H : Head G) {x : Str} {st : Stmt} {N ps : List Str} {k cst : Nat} {Pre : List Dat → Prop} {R : List Dat → Dat → Prop} (i j : Nat) (hi : fn[i]? = some ⟨(x, none), x, x, defArgs st, defBody st, defScope st, [], []⟩) (hj : fa[j]? = some (.glo x)) (Sc : FnScope N ps (defScope st))
    (hb : ∀ (kV doc pm : Value) (an : Option Addr) (cdv ct : Value) (us : List Value), us.length = ps.length → bindArgs (PySem.W.fnOf x x (defArgs st) (defBody st) (defScope st) .none kV doc pm an cdv ct) ⟨us, []⟩ = Pure.pure (ps.zip us))
    (h : ∀ A, Room k A → ∀ p c cells n ds, ds.length + 1 = ps.length → Pre ds → n + cst ≤ 100000 → cells.length ≤ 12 → Ex (G.sg A N (defScope st)) (penX p c cells) (defBody st) (startE N (.raw p :: ds.map Sl.dat)) n { nx := fun _ _ => False, rt := fun n' d' => n' ≤ n + cst ∧ R ds d' }) : HasF G x (k + 1) ps.length (PenSp ps.length cst Pre R) := by
  obtain ⟨fd, F⟩ := H.says.def_ i hi
  exact ⟨_, fd, ps, H.glo j hj, F.kp, F.bindsN hb, rfl, penx_ok F Sc h⟩
section
variable {S : Sg} {p c : Addr} {cells : List Int} {e b : Expr} {ρ : En} {n i : Nat} {pos q : Pos} {x : Str}
theorem ev_pen2 {K : Nat → Dat → Prop} (hn : nmB S.N S.sc i x = true) (hi : ρ[i]? = some (.raw p)) (hb : Ed S (penX p c cells) b ρ (.int 2)) (k : ∀ v, K n (.int v)) (hs : PlainIx b := by intro _ _; rfl) : Ev S (penX p c cells) (.Subscript (.Name x q) b pos) ρ n K := fun M Hb ad σ H E Q qq =>
  ⟨tOp (wX S) (tVar i) (wE S b), fun X c => pe_ix (wX_ok c) (pe_nm c hn) (wE_ok c) hs, .ref p, E.raw i p hi, hb n M Hb ad σ H E _ fun n2 w H2 y k2 j2 a2 ⟨e1, e2⟩ => by
    subst e1 e2
    obtain ⟨h1, h3, at_, val, h2, h4⟩ := id j2
    exact ⟨rIxL S.K, fun X c => by rw [← c.K]; exact ix_list, p, _, 2, .int val, rfl, at_int a2, SqL.of h2, rfl, qq _ _ H2 (.int val) k2 j2 At.int (k val)⟩⟩
theorem ev_pen1 {K : Nat → Dat → Prop} (hn : nmB S.N S.sc i x = true) (hi : ρ[i]? = some (.raw p)) (hb : Ed S (penX p c cells) b ρ (.int 1)) (k : ∀ a : Nat, a ≤ n → K n (.int (a : Nat))) (hs : PlainIx b := by intro _ _; rfl) : Ev S (penX p c cells) (.Subscript (.Name x q) b pos) ρ n K := fun M Hb ad σ H E Q qq =>
  ⟨tOp (wX S) (tVar i) (wE S b), fun X c => pe_ix (wX_ok c) (pe_nm c hn) (wE_ok c) hs, .ref p, E.raw i p hi, hb n M Hb ad σ H E _ fun n2 w H2 y k2 j2 a2 ⟨e1, e2⟩ => by
    subst e1 e2
    obtain ⟨h1, h3, at_, val, h2, h4⟩ := id j2
    exact ⟨rIxL S.K, fun X c => by rw [← c.K]; exact ix_list, p, _, 1, .int (at_ : Nat), rfl, at_int a2, SqL.of h2, rfl, qq _ _ H2 (.int (at_ : Nat)) k2 j2 At.int (k at_ h4)⟩⟩
/-- pen[0], as it stands -/
theorem we_pen0 {M : Mu} {Hb H : Hp} {ad : Nat → Addr} {σ : L2.St} (hn : nmB S.N S.sc i x = true) (hi : ρ[i]? = some (.raw p)) (hb : Ed S (penX p c cells) b ρ (.int 0)) (E : EnvOk (penX p c cells) M Hb ad n σ H ρ) {Q : VK} (k : ∀ H', Kw (penX p c cells) H H' → (penX p c cells).J n H' → Q (.ref c) H') (hs : PlainIx b := by intro _ _; rfl) : wE S (.Subscript (.Name x q) b pos) σ H Q :=
  ⟨tOp (wX S) (tVar i) (wE S b), fun X c => pe_ix (wX_ok c) (pe_nm c hn) (wE_ok c) hs, .ref p, E.raw i p hi, hb n M Hb ad σ H E _ fun n2 w H2 y k2 j2 a2 ⟨e1, e2⟩ => by
    subst e1 e2
    obtain ⟨h1, h3, at_, val, h2, h4⟩ := id j2
    exact ⟨rIxL S.K, fun X c => by rw [← c.K]; exact ix_list, p, _, 0, .ref c, rfl, at_int a2, SqL.of h2, rfl, k H2 k2 j2⟩⟩
theorem ed_penLen {pp pq : Pos} (hn : nmB S.N S.sc i x = true) (hi : ρ[i]? = some (.raw p)) (hg : glB S.sc "len" = true) (hm : S.mg "len" = none) (hb : Ed S (penX p c cells) b ρ (.int 0)) (hs : PlainIx b := by intro _ _; rfl)
    (he : ∀ env, starEach [.Subscript (.Name x q) b pos] env = (false, eval (.Subscript (.Name x q) b pos) env) :: starEach [] env := by intro _; rfl) (hpl : ∀ env, (backTo pq (starEach [.Subscript (.Name x q) b pos] env)).any (·.1) = false := by intro _; rfl) : Ed S (penX p c cells) (.Call (.Name "len" pp) [.Subscript (.Name x q) b pos] [] pq) ρ (.int (cells.length : Nat)) := fun n M Hb ad σ H E Q qq =>
  ⟨tCB (wC S (.builtin "len")) (wA S [.Subscript (.Name x q) b pos]), fun X c => pe_callB (wC_ok c) (gl_of c hg) (by rw [c.mg]; exact hm) PySem.boot_len (wA_ok c) (by decide) (glB_ok hg).2 (he X.env) (hpl X.env), tCons (wE S (.Subscript (.Name x q) b pos)) tNil, fun X c => pa_cons (wE_ok c) pa_nil (he X.env), we_pen0 hn hi hb E (fun H' kw j => by
    obtain ⟨h1, h3, _⟩ := id j
    refine ⟨fun xs H Q => ∃ p ys, xs = [.ref p] ∧ (SqL S.K H p ys ∨ SqT S.K H p ys) ∧ Q (.int ys.length) H, fun X c => by rw [← c.K]; exact call_len_seq, c, _, rfl, .inl (SqL.of h3), ?_⟩
    rw [List.length_map]
    exact qq n _ H' (.int (cells.length : Nat)) kw j At.int ⟨rfl, rfl⟩) hs⟩
theorem ev_penAt {K : Nat → Dat → Prop} {b2 : Expr} {pos2 : Pos} (hn : nmB S.N S.sc i x = true) (hi : ρ[i]? = some (.raw p)) (hb : Ed S (penX p c cells) b ρ (.int 0)) (h : Ev S (penX p c cells) b2 ρ n fun n1 d => ∃ (z : Int) (j : Nat), d = .int z ∧ ixN cells.length z = some j ∧ ∀ v, K n1 (.int v)) (hs : PlainIx b := by intro _ _; rfl) (hs2 : PlainIx b2 := by intro _ _; rfl) : Ev S (penX p c cells) (.Subscript (.Subscript (.Name x q) b pos) b2 pos2) ρ n K := fun M Hb ad σ H E Q qq =>
  ⟨tOp (wX S) (wE S (.Subscript (.Name x q) b pos)) (wE S b2), fun X c => pe_ix (wX_ok c) (wE_ok c) (wE_ok c) hs2, we_pen0 hn hi hb E (fun H1 k1 j1 => h M Hb ad σ H1 (E.keep k1 j1) _ fun n2 w H2 y k2 j2 a2 ⟨z, j, ey, hj, kk⟩ => by
    subst ey
    obtain ⟨h1, h3, _⟩ := id j2
    have hjl : j < cells.length := by
      have hj := hj
      unfold ixN at hj
      split at hj
      · split at hj
        · have := Option.some.inj hj
          omega
        · cases hj
      · split at hj
        · have := Option.some.inj hj
          omega
        · cases hj
    refine ⟨rIxL S.K, fun X c => by rw [← c.K]; exact ix_list, c, _, z, .int cells[j], rfl, at_int a2, SqL.of h3, ?_, qq _ _ H2 (.int cells[j]) (k1.trans k2) j2 At.int (kk _)⟩
    have : (cells.map V.int)[j]? = some (V.int cells[j]) := by rw [List.getElem?_map, List.getElem?_eq_getElem hjl]; rfl
    unfold atI
    rw [List.length_map, hj]
    exact this) hs⟩
/-- pen[1] = e -/
theorem x_pen1 {tpos : Pos} {D : DE} (hn : nmB S.N S.sc i x = true) (hi : ρ[i]? = some (.raw p)) (hb : Ed S (penX p c cells) b ρ (.int 1)) (h : Ev S (penX p c cells) e ρ n fun n1 d => ∃ a m : Nat, d = .int (a : Nat) ∧ a ≤ m ∧ D.nx m ρ)
    (ha : ∀ (env : Env) (v : Value), assign (.Subscript (.Name x q) b tpos) env v = (do
      let ov ← holding [v] (eval (.Name x q) env)
      let iv ← holding [v, ov] (eval b env)
      standAt tpos
      holding [v, ov, iv] (setItem ov iv v)
      release [v, ov, iv] []) := by intro _ _; rfl) (hs : ∀ env, swapsWithSole [.Subscript (.Name x q) b tpos] e pos.line env = pure false := by intro _; rfl) (hw : ∀ env, swappedStores [.Subscript (.Name x q) b tpos] e env = pure none := by intro _; rfl)
    (h1 : ∀ env, (assignEach [.Subscript (.Name x q) b tpos] env).map (·.2) = [assign (.Subscript (.Name x q) b tpos) env] := by intro _; rfl) : Ex1 S (penX p c cells) (.Assign [.Subscript (.Name x q) b tpos] e pos) ρ n D := fun M Hb ad σ H D' E R =>
  ⟨tAsg (wE S e) (gSub (tVar i) (wE S b) rSetL), fun X c => ps_asg (wE_ok c) (pg_sub (pe_nm c hn) (wE_ok c) set_list (ha _)) (hs _) (hw _) (h1 _), h M Hb ad σ H E _ fun n1 v H1 d k j a ⟨aa, m, ed, hm, kd⟩ => by
    subst ed
    have E1 := E.keep k j
    refine ⟨.ref p, E1.raw i p hi, hb n1 M Hb ad σ H1 E1 _ fun n2 w H2 y k2 j2 a2 ⟨e1, e2⟩ => ?_⟩
    subst e1 e2
    have E2 := E1.keep k2 j2
    obtain ⟨g1, g3, at_, val, g2, g4⟩ := id j2
    refine ⟨p, _, 1, 1, rfl, at_int a2, g2, rfl, R.nx m ad σ _ _ (E2.keep (n' := m) ?_ ?_) kd⟩
    · intro b' o nw hb'
      rw [upd_ne fun z => nw z]
      exact hb'
    · refine ⟨g1, by rw [upd_ne fun z => g1 z.symm]; exact g3, aa, val, ?_, hm⟩
      rw [upd_same, at_int a]
      rfl⟩
/-- pen[2] = e -/
theorem x_pen2 {tpos : Pos} {D : DE} (hn : nmB S.N S.sc i x = true) (hi : ρ[i]? = some (.raw p)) (hb : Ed S (penX p c cells) b ρ (.int 2)) (h : Ev S (penX p c cells) e ρ n fun n1 d => ∃ a : Int, d = .int a ∧ D.nx n1 ρ)
    (ha : ∀ (env : Env) (v : Value), assign (.Subscript (.Name x q) b tpos) env v = (do
      let ov ← holding [v] (eval (.Name x q) env)
      let iv ← holding [v, ov] (eval b env)
      standAt tpos
      holding [v, ov, iv] (setItem ov iv v)
      release [v, ov, iv] []) := by intro _ _; rfl) (hs : ∀ env, swapsWithSole [.Subscript (.Name x q) b tpos] e pos.line env = pure false := by intro _; rfl) (hw : ∀ env, swappedStores [.Subscript (.Name x q) b tpos] e env = pure none := by intro _; rfl)
    (h1 : ∀ env, (assignEach [.Subscript (.Name x q) b tpos] env).map (·.2) = [assign (.Subscript (.Name x q) b tpos) env] := by intro _; rfl) : Ex1 S (penX p c cells) (.Assign [.Subscript (.Name x q) b tpos] e pos) ρ n D := fun M Hb ad σ H D' E R =>
  ⟨tAsg (wE S e) (gSub (tVar i) (wE S b) rSetL), fun X c => ps_asg (wE_ok c) (pg_sub (pe_nm c hn) (wE_ok c) set_list (ha _)) (hs _) (hw _) (h1 _), h M Hb ad σ H E _ fun n1 v H1 d k j a ⟨aa, ed, kd⟩ => by
    subst ed
    have E1 := E.keep k j
    refine ⟨.ref p, E1.raw i p hi, hb n1 M Hb ad σ H1 E1 _ fun n2 w H2 y k2 j2 a2 ⟨e1, e2⟩ => ?_⟩
    subst e1 e2
    have E2 := E1.keep k2 j2
    obtain ⟨g1, g3, at_, val, g2, g4⟩ := id j2
    refine ⟨p, _, 2, 2, rfl, at_int a2, g2, rfl, R.nx _ ad σ _ _ (E2.keep (n' := _) ?_ ?_) kd⟩
    · intro b' o nw hb'
      rw [upd_ne fun z => nw z]
      exact hb'
    · refine ⟨g1, by rw [upd_ne fun z => g1 z.symm]; exact g3, at_, aa, ?_, g4⟩
      rw [upd_same, at_int a]
      rfl⟩
end
end Kb
namespace Kb
open PySem PySem.Spec PyProof.Rows L2
section
variable {S : Sg} {g : Wd} {e : Expr} {ρ : En} {n : Nat} {p pos : Pos}
theorem ev_int1 {K : Nat → Dat → Prop} (hg : glB S.sc "int" = true) (hm : S.mg "int" = none) (h : Ev S g e ρ n fun n1 d => ∃ i, d = .int i ∧ K n1 d) (he : ∀ env, starEach [e] env = (false, eval e env) :: starEach [] env := by intro _; rfl) : Ev S g (.Call (.Name "int" p) [e] [] pos) ρ n K :=
  ev_bty hg hm PyProof.Rows.boot_int (ea_cons (h.imp fun n1 d ⟨i, ed, k⟩ => ea_nil (by subst ed; exact c_int k)) he) (by decide) he
end
def P13 : List Int := [2147483629, 2147483587, 2147483579, 2147483563, 2147483549, 2147483543, 2147483497, 2147483489, 2147483477, 2147483423, 2147483399, 2147483353, 2147483323]
def pmF (i : Int) : Int := P13.getD i.toNat 1
theorem pmF_pos {i : Int} (h0 : 0 ≤ i) (h1 : i < 13) : 0 < pmF i ∧ pmF i < 2147483648 := by
  have : ∀ k : Nat, k < 13 → 0 < P13.getD k 1 ∧ P13.getD k 1 < 2147483648 := by decide
  exact this i.toNat (by omega)
theorem pmF_at {i : Int} (h0 : 0 ≤ i) (h1 : i < 13) : Ix (.lst (P13.map Dat.int)) i (.int (pmF i)) := by
  refine .lst ?_
  obtain ⟨k, rfl⟩ := Int.eq_ofNat_of_zero_le h0
  rw [atI_nat, List.getElem?_map]
  have hk : k < P13.length := by show k < 13; omega
  rw [List.getElem?_eq_getElem hk]
  unfold pmF
  rw [Int.toNat_natCast, List.getD_eq_getElem?_getD, List.getElem?_eq_getElem hk]
  rfl
def spU0 (c a : Int) : Int := c % 1000000007 * (2 * a + 69069) + a * 40503 + 977
def spU (c a : Int) : Int := spU0 c a ^ 3 % pmF (a % 13)
def spV (c a : Int) : Int := (spU c a * (a + 3) + c % 65537 + 5) ^ 5 % pmF ((a + 5) % 13)
def spW (c a : Int) : Int := (spV c a + spU c a % 1009 + a) ^ 3 % pmF ((a + 7) % 13)
def spF (c a : Int) : Int := if 10 ^ 18 ≤ c then c else (spU c a * 2147483647 + spV c a) * 2147483647 + spW c a
theorem mod_bd {x y : Int} (h : 0 < y ∧ y < 2147483648) : 0 ≤ x % y ∧ x % y < 2147483648 := ⟨Int.emod_nonneg _ (by omega), by have := Int.emod_lt_of_pos x h.1; omega⟩
theorem bd_of {x : Int} {k : Nat} (h0 : 0 ≤ x) (h1 : x < 2 ^ k) : Bd k x := by
  show x.natAbs < 2 ^ k
  have e : ((x.natAbs : Nat) : Int) = x := Int.natAbs_of_nonneg h0
  have e2 : ((2 ^ k : Nat) : Int) = (2 : Int) ^ k := by push_cast; rfl
  rw [← e, ← e2] at h1
  exact Int.ofNat_lt.mp h1
abbrev N__law_spread : List Str := ["_law_cell", "_law_at", "_law_primes", "_law_u", "_law_v", "_law_w"]
theorem sc__law_spread : FnScope N__law_spread ["_law_cell", "_law_at"] (defScope s__law_spread) := ⟨rfl, rfl, rfl, by decide +kernel, rfl, by decide +kernel, by decide +kernel⟩
def R__law_spread (ds : List Dat) (d : Dat) : Prop := ∃ (c : Int) (a : Nat), ds = [.int c, .int (a : Nat)] ∧ a ≤ 100000 ∧ d = .int (spF c a)
theorem ok__law_spread {G : Gc} (H : Head G) : HasF G "_law_spread" 1 2 (PureSp 2 R__law_spread) := by
  refine H.pure (st := s__law_spread) (ps := ["_law_cell", "_law_at"]) 38 30 (by kernel_rfl) (by kernel_rfl) sc__law_spread (fun _ _ _ _ _ _ us hl => match us, hl with | [_, _], _ => rfl) fun A hr ds d hl hR => ?_
  have nd := sc__law_spread.nd
  obtain ⟨c, a, rfl, ha, rfl⟩ := hR
  refine x_cons (xd_if (b := decide ((10 : Int) ^ 18 ≤ c)) (etd_cmp (ed_nm 0 (by kernel_rfl) rfl) (ed_op ed_int ed_int (o_pow (show CPow 10 18 by unfold CPow; decide))) o_ge) (fun h => x_one (x_ret (Ed.ev (ed_nm 0 (by kernel_rfl) rfl) ?_))) fun h => x_nil ?_)
  · unfold spF
    rw [if_pos (of_decide_eq_true h)]
  have hlt : ¬ (10 : Int) ^ 18 ≤ c := of_decide_eq_false h
  have e : spF c a = (spU c a * 2147483647 + spV c a) * 2147483647 + spW c a := by unfold spF; rw [if_neg hlt]
  rw [e]
  have m1 : 0 ≤ c % 1000000007 ∧ c % 1000000007 < 1000000007 := ⟨Int.emod_nonneg _ (by decide), Int.emod_lt_of_pos _ (by decide)⟩
  have m2 : 0 ≤ c % 65537 ∧ c % 65537 < 65537 := ⟨Int.emod_nonneg _ (by decide), Int.emod_lt_of_pos _ (by decide)⟩
  have i1 : 0 ≤ (a : Int) % 13 ∧ (a : Int) % 13 < 13 := ⟨Int.emod_nonneg _ (by decide), Int.emod_lt_of_pos _ (by decide)⟩
  have i2 : 0 ≤ ((a : Int) + 5) % 13 ∧ ((a : Int) + 5) % 13 < 13 := ⟨Int.emod_nonneg _ (by decide), Int.emod_lt_of_pos _ (by decide)⟩
  have i3 : 0 ≤ ((a : Int) + 7) % 13 ∧ ((a : Int) + 7) % 13 < 13 := ⟨Int.emod_nonneg _ (by decide), Int.emod_lt_of_pos _ (by decide)⟩
  have p1 := pmF_pos i1.1 i1.2
  have p2 := pmF_pos i2.1 i2.2
  have p3 := pmF_pos i3.1 i3.2
  have bu : 0 ≤ spU c a ∧ spU c a < 2147483648 := mod_bd p1
  have bv : 0 ≤ spV c a ∧ spV c a < 2147483648 := mod_bd p2
  have bw : 0 ≤ spW c a ∧ spW c a < 2147483648 := mod_bd p3
  have mu : 0 ≤ spU c a % 1009 ∧ spU c a % 1009 < 1009 := ⟨Int.emod_nonneg _ (by decide), Int.emod_lt_of_pos _ (by decide)⟩
  have b0 : 0 ≤ spU0 c a ∧ spU0 c a < 2 ^ 62 := by
    unfold spU0
    have x1 : 0 ≤ c % 1000000007 * (2 * (a : Int) + 69069) := Int.mul_nonneg m1.1 (by omega)
    have x2 : c % 1000000007 * (2 * (a : Int) + 69069) ≤ 1000000007 * 269069 := Int.mul_le_mul (by omega) (by omega) (by omega) (by omega)
    omega
  have b1 : 0 ≤ spU c a * ((a : Int) + 3) + c % 65537 + 5 ∧ spU c a * ((a : Int) + 3) + c % 65537 + 5 < 2 ^ 62 := by
    have x1 : 0 ≤ spU c a * ((a : Int) + 3) := Int.mul_nonneg bu.1 (by omega)
    have x2 : spU c a * ((a : Int) + 3) ≤ 2147483648 * 100003 := Int.mul_le_mul (by omega) (by omega) (by omega) (by omega)
    omega
  have cp : ∀ {x : Int} {k : Int}, 0 ≤ x → x < 2 ^ 62 → 0 ≤ k → k ≤ 10 → CPow x k := fun h0 h1 h2 h3 => ⟨h2, by omega, by omega⟩
  refine x_cons (xd_setN nd 2 (by kernel_rfl) (by simp [startE]) (edn_lst (eda_cons ed_int (eda_cons ed_int (eda_cons ed_int (eda_cons ed_int (eda_cons ed_int (eda_cons ed_int (eda_cons ed_int (eda_cons ed_int eda_nil))))))))) ?_)
  refine x_freeze (i := 2) rfl ?_
  refine x_cons (xd_setN nd 2 (by kernel_rfl) (by simp [startE]) (EdN.is (edn_op (ed_nm 2 (by kernel_rfl) rfl) (EdN.ed (edn_lst (eda_cons ed_int (eda_cons ed_int (eda_cons ed_int (eda_cons ed_int (eda_cons ed_int eda_nil))))))) (on_cat (by simp))) (show _ = P13.map Dat.int from rfl)) ?_)
  refine x_freeze (i := 2) rfl ?_
  have ca : CMulW 2 (a : Int) := cm (j := 2) (k := 62) (by decide) (bd_of (by omega) (by omega))
  refine x_cons (xd_set nd 3 (by kernel_rfl) (ed_op (ed_op (ed_op (ed_op (ed_int1 (by kernel_rfl) (H.free 67) (ed_nm 0 (by kernel_rfl) rfl)) ed_int (o_mod (by decide))) (ed_op (ed_op ed_int (ed_nm 1 (by kernel_rfl) rfl) (o_mul ca)) ed_int o_add) (o_mul (cm (j := 62) (k := 62) (bd_of m1.1 (by omega)) (bd_of (by omega) (by omega))))) (ed_op (ed_nm 1 (by kernel_rfl) rfl) ed_int (o_mul (cm (j := 62) (k := 62) (bd_of (by omega) (by omega)) (bd_of (by omega) (by omega))))) o_add) ed_int o_add) ?_)
  refine x_cons (xd_set nd 3 (by kernel_rfl) (ed_op (ed_int1 (by kernel_rfl) (H.free 67) (ed_op (ed_nm 3 (by kernel_rfl) rfl) ed_int (o_pow (cp b0.1 b0.2 (by decide) (by decide))))) (ed_ix (ed_nm 2 (by kernel_rfl) rfl) (ed_op (ed_int1 (by kernel_rfl) (H.free 67) (ed_nm 1 (by kernel_rfl) rfl)) ed_int (o_mod (by decide))) (pmF_at i1.1 i1.2)) (o_mod p1.1)) ?_)
  refine x_cons (xd_set nd 4 (by kernel_rfl) (ed_op (ed_int1 (by kernel_rfl) (H.free 67) (ed_op (ed_op (ed_op (ed_op (Ed.is (ed_nm 3 (by kernel_rfl) rfl) (show _ = Dat.int (spU c a) from rfl)) (ed_op (ed_nm 1 (by kernel_rfl) rfl) ed_int o_add) (o_mul (cm (j := 62) (k := 62) (bd_of bu.1 (by omega)) (bd_of (by omega) (by omega))))) (ed_op (ed_int1 (by kernel_rfl) (H.free 67) (ed_nm 0 (by kernel_rfl) rfl)) ed_int (o_mod (by decide))) o_add) ed_int o_add) ed_int (o_pow (cp b1.1 b1.2 (by decide) (by decide))))) (ed_ix (ed_nm 2 (by kernel_rfl) rfl) (ed_op (ed_int1 (by kernel_rfl) (H.free 67) (ed_op (ed_nm 1 (by kernel_rfl) rfl) ed_int o_add)) ed_int (o_mod (by decide))) (pmF_at i2.1 i2.2)) (o_mod p2.1)) ?_)
  refine x_cons (xd_set nd 5 (by kernel_rfl) (ed_op (ed_int1 (by kernel_rfl) (H.free 67) (ed_op (ed_op (ed_op (Ed.is (ed_nm 4 (by kernel_rfl) rfl) (show _ = Dat.int (spV c a) from rfl)) (ed_op (ed_int1 (by kernel_rfl) (H.free 67) (Ed.is (ed_nm 3 (by kernel_rfl) rfl) (show _ = Dat.int (spU c a) from rfl))) ed_int (o_mod (by decide))) o_add) (ed_nm 1 (by kernel_rfl) rfl) o_add) ed_int (o_pow (cp (by omega) (by omega) (by decide) (by decide))))) (ed_ix (ed_nm 2 (by kernel_rfl) rfl) (ed_op (ed_int1 (by kernel_rfl) (H.free 67) (ed_op (ed_nm 1 (by kernel_rfl) rfl) ed_int o_add)) ed_int (o_mod (by decide))) (pmF_at i3.1 i3.2)) (o_mod p3.1)) ?_)
  exact x_one (x_ret (Ed.ev (ed_op (ed_op (ed_op (ed_op (Ed.is (ed_nm 3 (by kernel_rfl) rfl) (show _ = Dat.int (spU c a) from rfl)) ed_int (o_mul (cm (j := 62) (k := 62) (bd_of bu.1 (by omega)) (by decide)))) (Ed.is (ed_nm 4 (by kernel_rfl) rfl) (show _ = Dat.int (spV c a) from rfl)) o_add) ed_int (o_mul (cm (j := 100) (k := 62) (bd_of (by omega) (by omega)) (by decide)))) (Ed.is (ed_nm 5 (by kernel_rfl) rfl) (show _ = Dat.int (spW c a) from rfl)) o_add) rfl))
end Kb
namespace Kb
open PySem PySem.Spec PyProof.Rows L2
abbrev N__law_take : List Str := ["_law_pen", "_law_amount", "_law_at", "_law_cell", "_law_found"]
theorem sc__law_take : FnScope N__law_take ["_law_pen", "_law_amount"] (defScope s__law_take) := ⟨rfl, rfl, rfl, by decide +kernel, rfl, by decide +kernel, by decide +kernel⟩
def Pre_take (ds : List Dat) : Prop := ∃ m : Nat, ds = [.int (m : Nat)] ∧ 1 ≤ m ∧ m ≤ 100000
def R_take (ds : List Dat) (d : Dat) : Prop := ∃ (m r : Nat), ds = [.int (m : Nat)] ∧ d = .int (r : Nat) ∧ r < m
theorem ok__law_take {G : Gc} (H : Head G) : HasF G "_law_take" 2 2 (PenSp 2 1 Pre_take R_take) := by
  refine H.penx (st := s__law_take) (ps := ["_law_pen", "_law_amount"]) 39 31 (by kernel_rfl) (by kernel_rfl) sc__law_take (fun _ _ _ _ _ _ us hl => match us, hl with | [_, _], _ => rfl) fun A hr p c cells n ds hl hP hn hc => ?_
  have nd := sc__law_take.nd
  obtain ⟨m, rfl, h1, h2⟩ := hP
  have cd : CDivW 0 (m : Int) := ⟨by omega, by
    have : (m : Int).natAbs.log2 ≤ 17 := by
      rw [Int.natAbs_natCast]
      have := (Nat.log2_lt (n := m) (k := 18) (by omega)).mpr (by omega)
      omega
    omega⟩
  refine x_consI (fun n' ρ' => n' ≤ n + 1 ∧ ∃ s1 s2, ρ' = [.raw p, .dat (.int (m : Nat)), s1, s2, .no]) (x_if (et_cmp (ev_pen2 (i := 0) (by kernel_rfl) rfl ed_int fun v => Ed.ev (ed_nm 1 (by kernel_rfl) rfl) ⟨_, o_lt, fun h => ?_, fun h => x_nil ⟨by omega, .no, .no, rfl⟩⟩))) fun n' ρ' ⟨hn', s1, s2, er⟩ => ?_
  · refine x_cons (x_set nd 2 (by kernel_rfl) (ev_pen1 (i := 0) (by kernel_rfl) rfl ed_int fun a ha => ?_))
    refine x_cons (xd_set nd 3 (by kernel_rfl) ed_int ?_)
    have m5 : CMulW (a : Int) 5 := cm (j := 62) (k := 62) (bd_of (by omega) (by omega)) (by decide)
    refine x_consI (fun n' ρ' => n' = n ∧ ∃ v : Int, ρ' = [.raw p, .dat (.int (m : Nat)), .dat (.int (a : Nat)), .dat (.int v), .no]) (xd_if (etd_cmp (ed_nm 2 (by kernel_rfl) rfl) (ed_penLen (i := 0) (by kernel_rfl) rfl (by kernel_rfl) (H.free 69) ed_int) o_lt) (fun h => x_one (x_set nd 3 (by kernel_rfl) (ev_penAt (i := 0) (by kernel_rfl) rfl ed_int (Ed.ev (ed_nm 2 (by kernel_rfl) rfl) ⟨(a : Int), a, rfl, ixN_nat (by have := of_decide_eq_true h; omega), fun v => ⟨rfl, v, rfl⟩⟩)))) (fun h => x_one (xd_if (etd_cmp (ed_penLen (i := 0) (by kernel_rfl) rfl (by kernel_rfl) (H.free 69) ed_int) ed_int o_gt) (fun h2 => ?_) fun h2 => x_nil ⟨rfl, 0, rfl⟩))) fun n' ρ' ⟨en, v, er⟩ => ?_
    · have hcl : 0 < cells.length := by have := of_decide_eq_true h2; omega
      have hm : 0 ≤ ((a : Int) * 5 + 3) % (cells.length : Nat) ∧ ((a : Int) * 5 + 3) % (cells.length : Nat) < (cells.length : Nat) := ⟨Int.emod_nonneg _ (by omega), Int.emod_lt_of_pos _ (by omega)⟩
      obtain ⟨k, hk⟩ := Int.eq_ofNat_of_zero_le hm.1
      refine x_one (x_set nd 3 (by kernel_rfl) (ev_op (ev_int1 (by kernel_rfl) (H.free 67) (ev_penAt (i := 0) (by kernel_rfl) rfl ed_int (Ed.ev (ed_op (ed_int1 (by kernel_rfl) (H.free 67) (ed_op (ed_op (ed_nm 2 (by kernel_rfl) rfl) ed_int (o_mul m5)) ed_int o_add)) (ed_penLen (i := 0) (by kernel_rfl) rfl (by kernel_rfl) (H.free 69) ed_int) (o_mod (by omega))) ⟨_, k, rfl, by rw [hk]; exact ixN_nat (by omega), fun v => ⟨v, rfl, Ed.ev (ed_op (ed_op ed_int ed_int (o_pow (show CPow 10 17 by unfold CPow; decide))) (ed_nm 2 (by kernel_rfl) rfl) o_add) ⟨_, o_mod ?_, rfl, _, rfl⟩⟩⟩)))))
      show (0 : Int) < 10 ^ 17 + (a : Int)
      omega
    · subst en er
      refine x_cons (x_pen1 (i := 0) (by kernel_rfl) rfl ed_int (Ed.ev (ed_op (ed_nm 2 (by kernel_rfl) rfl) ed_int o_add) ⟨a + 1, n' + 1, rfl, by omega, ?_⟩))
      refine x_one (x_pen2 (i := 0) (by kernel_rfl) rfl ed_int (Ed.ev (ed_call (ok__law_spread H) (hr.mono (by decide)) (by kernel_rfl) (eda_cons (ed_nm 3 (by kernel_rfl) rfl) (eda_cons (ed_nm 2 (by kernel_rfl) rfl) eda_nil)) ⟨v, a, rfl, by omega, rfl⟩) ⟨_, rfl, by omega, _, _, rfl⟩))
  · subst er
    refine x_cons (x_set nd 4 (by kernel_rfl) (ev_op (ev_int1 (by kernel_rfl) (H.free 67) (ev_pen2 (i := 0) (by kernel_rfl) rfl ed_int fun v => ⟨v, rfl, Ed.ev (ed_nm 1 (by kernel_rfl) rfl) ⟨_, o_mod (by omega), ?_⟩⟩))))
    refine x_cons (x_pen2 (i := 0) (by kernel_rfl) rfl ed_int (ev_op (ev_pen2 (i := 0) (by kernel_rfl) rfl ed_int fun v2 => Ed.ev (ed_nm 1 (by kernel_rfl) rfl) ⟨_, o_fdiv cd, _, rfl, ?_⟩)))
    have hm : 0 ≤ v % (m : Int) ∧ v % (m : Int) < m := ⟨Int.emod_nonneg _ (by omega), Int.emod_lt_of_pos _ (by omega)⟩
    obtain ⟨k, hk⟩ := Int.eq_ofNat_of_zero_le hm.1
    exact x_one (x_ret (Ed.ev (ed_nm 4 (by kernel_rfl) rfl) ⟨hn', m, k, rfl, by rw [hk], by omega⟩))
end Kb
namespace Kb
open PySem PySem.Spec PyProof.Rows L2
section
variable {S : Sg} {pa ca : Addr} {e : Expr} {ρ : En} {n i : Nat} {p q pos : Pos} {x : Str} {K : Nat → Dat → Prop}
theorem ev_take (H : Head S.gc) (hr : Room 2 S.A) (hg : glB S.sc "_law_take" = true) (hn : nmB S.N S.sc i x = true) (hi : ρ[i]? = some (.raw pa)) (h : Ev S (penW pa ca) e ρ n fun n1 d => ∃ m : Nat, d = .int (m : Nat) ∧ 1 ≤ m ∧ m ≤ 100000 ∧ n1 + 1 ≤ 100000 ∧ ∀ r : Nat, r < m → K (n1 + 1) (.int (r : Nat)))
    (he0 : ∀ env, starEach [e] env = (false, eval e env) :: starEach [] env := by intro _; rfl) (he : ∀ env, starEach [.Name x q, e] env = (false, eval (.Name x q) env) :: starEach [e] env := by intro _; rfl) (hpl : ∀ env, (backTo pos (starEach [.Name x q, e] env)).any (·.1) = false := by intro _; rfl) : Ev S (penW pa ca) (.Call (.Name "_law_take" p) [.Name x q, e] [] pos) ρ n K :=
  ev_pcall (ok__law_take H) hr hg hn hi (ea_cons (h.imp fun n1 d ⟨m, ed, h1, h2, h3, k⟩ => ea_nil (by
    subst ed
    exact ⟨rfl, ⟨m, rfl, h1, h2⟩, h3, fun d ⟨m', r, em, edd, hr⟩ => by
      have e2 : (m' : Int) = (m : Int) := by
        have := (List.cons.inj em).1
        injection this with z
        exact z.symm
      subst edd
      exact k r (by omega)⟩)) he0) he hpl
end
abbrev N__law_one_of : List Str := ["_law_pen", "_law_some"]
theorem sc__law_one_of : FnScope N__law_one_of ["_law_pen", "_law_some"] (defScope s__law_one_of) := ⟨rfl, rfl, rfl, by decide +kernel, rfl, by decide +kernel, by decide +kernel⟩
def Pre_one (ds : List Dat) : Prop := ∃ xs : List Dat, ds = [.lst xs] ∧ 1 ≤ xs.length ∧ xs.length ≤ 1000
def R_one (ds : List Dat) (d : Dat) : Prop := ∃ xs : List Dat, ds = [.lst xs] ∧ d ∈ xs
theorem ok__law_one_of {G : Gc} (H : Head G) : HasF G "_law_one_of" 3 2 (PenSp 2 1 Pre_one R_one) := by
  refine H.pen (st := s__law_one_of) (ps := ["_law_pen", "_law_some"]) 41 33 (by kernel_rfl) (by kernel_rfl) sc__law_one_of (fun _ _ _ _ _ _ us hl => match us, hl with | [_, _], _ => rfl) fun A hr p c n ds hl hP hn => ?_
  have nd := sc__law_one_of.nd
  obtain ⟨xs, rfl, h1, h2⟩ := hP
  refine x_one (x_ret (ev_ix (Ed.ev (ed_nm 1 (by kernel_rfl) rfl) (ev_take (i := 0) H (hr.mono (by decide)) (by kernel_rfl) (by kernel_rfl) rfl (Ed.ev (ed_len (xs := xs) (by kernel_rfl) (H.free 69) (ed_nm 1 (by kernel_rfl) rfl) (by exact rfl)) ⟨xs.length, rfl, h1, by omega, hn, fun r hr => ⟨(r : Int), xs[r], rfl, .lst (by rw [atI_nat, List.getElem?_eq_getElem hr]), by omega, xs, rfl, List.getElem_mem hr⟩⟩)))))
section
variable {S : Sg} {pa ca : Addr} {e : Expr} {ρ : En} {n i : Nat} {p q pos : Pos} {x : Str} {K : Nat → Dat → Prop}
theorem ev_one (H : Head S.gc) (hr : Room 3 S.A) (hg : glB S.sc "_law_one_of" = true) (hn : nmB S.N S.sc i x = true) (hi : ρ[i]? = some (.raw pa)) (h : Ev S (penW pa ca) e ρ n fun n1 d => ∃ xs : List Dat, d = .lst xs ∧ 1 ≤ xs.length ∧ xs.length ≤ 1000 ∧ n1 + 1 ≤ 100000 ∧ ∀ d ∈ xs, K (n1 + 1) d)
    (he0 : ∀ env, starEach [e] env = (false, eval e env) :: starEach [] env := by intro _; rfl) (he : ∀ env, starEach [.Name x q, e] env = (false, eval (.Name x q) env) :: starEach [e] env := by intro _; rfl) (hpl : ∀ env, (backTo pos (starEach [.Name x q, e] env)).any (·.1) = false := by intro _; rfl) : Ev S (penW pa ca) (.Call (.Name "_law_one_of" p) [.Name x q, e] [] pos) ρ n K :=
  ev_pcall (ok__law_one_of H) hr hg hn hi (ea_cons (h.imp fun n1 d ⟨xs, ed, h1, h2, h3, k⟩ => ea_nil (by
    subst ed
    exact ⟨rfl, ⟨xs, rfl, h1, h2⟩, h3, fun d ⟨xs', em, hd⟩ => by
      have e2 : xs = xs' := by
        have := (List.cons.inj em).1
        injection this
      exact k d (e2 ▸ hd)⟩)) he0) he hpl
/-- a draw whose only argument is the pen -/
theorem ev_pen0 {f : Str} {k cst : Nat} {R : List Dat → Dat → Prop} (F : HasF S.gc f k 1 (PenSp 1 cst (fun _ => True) R)) (hr : Room k S.A) (hg : glB S.sc f = true) (hn : nmB S.N S.sc i x = true) (hi : ρ[i]? = some (.raw pa)) (h1 : n + cst ≤ 100000) (h : ∀ d, R [] d → K (n + cst) d)
    (he : ∀ env, starEach [.Name x q] env = (false, eval (.Name x q) env) :: starEach [] env := by intro _; rfl) (hpl : ∀ env, (backTo pos (starEach [.Name x q] env)).any (·.1) = false := by intro _; rfl) : Ev S (penW pa ca) (.Call (.Name f p) [.Name x q] [] pos) ρ n K :=
  ev_pcall F hr hg hn hi (ea_nil ⟨rfl, trivial, h1, h⟩) he hpl
end
abbrev N__law_hours : List Str := ["_law_pen", "_law_way"]
theorem sc__law_hours : FnScope N__law_hours ["_law_pen"] (defScope s__law_hours) := ⟨rfl, rfl, rfl, by decide +kernel, rfl, by decide +kernel, by decide +kernel⟩
def R_hours (ds : List Dat) (d : Dat) : Prop := ∃ v : Int, d = .int v ∧ 0 ≤ v ∧ v ≤ 10 ^ 20 + 1000
theorem ok__law_hours {G : Gc} (H : Head G) : HasF G "_law_hours" 3 1 (PenSp 1 2 (fun _ => True) R_hours) := by
  refine H.pen (st := s__law_hours) (ps := ["_law_pen"]) 43 35 (by kernel_rfl) (by kernel_rfl) sc__law_hours (fun _ _ _ _ _ _ us hl => match us, hl with | [_], _ => rfl) fun A hr p c n ds hl hP hn => ?_
  have nd := sc__law_hours.nd
  have e0 : ds = [] := List.length_eq_zero_iff.mp (by simpa using hl)
  subst e0
  refine x_cons (x_set nd 1 (by kernel_rfl) (ev_take (i := 0) H (hr.mono (by decide)) (by kernel_rfl) (by kernel_rfl) rfl (Ed.ev ed_int ⟨9, rfl, by decide, by decide, by omega, fun w hw => ?_⟩)))
  refine x_cons (xd_if (b := decide ((w : Int) = 8)) (etd_cmp (ed_nm 1 (by kernel_rfl) rfl) ed_int o_eq) (fun h => ?_) fun h => x_nil ?_)
  · refine x_one (x_ret (ev_op (Ed.ev (ed_op ed_int ed_int (o_pow (show CPow 10 20 by unfold CPow; decide))) (ev_take (i := 0) H (hr.mono (by decide)) (by kernel_rfl) (by kernel_rfl) rfl (Ed.ev ed_int ⟨1000, rfl, by decide, by decide, by omega, fun r hr => ⟨_, o_add, by omega, _, rfl, ?_, ?_⟩⟩)))))
    · show (0 : Int) ≤ 10 ^ 20 + (r : Int)
      omega
    · show (10 : Int) ^ 20 + (r : Int) ≤ 10 ^ 20 + 1000
      omega
  · have hw8 : w < 8 := by have := of_decide_eq_false h; omega
    obtain ⟨m, hm, h1, h2⟩ : ∃ m : Nat, ([.int 4, .int 4, .int 7, .int 10, .int 10, .int 20, .int 40, .int 100] : List Dat)[w]? = some (.int (m : Nat)) ∧ 1 ≤ m ∧ m ≤ 100 := by
      have : w = 0 ∨ w = 1 ∨ w = 2 ∨ w = 3 ∨ w = 4 ∨ w = 5 ∨ w = 6 ∨ w = 7 := by omega
      rcases this with rfl | rfl | rfl | rfl | rfl | rfl | rfl | rfl
      · exact ⟨4, rfl, by decide, by decide⟩
      · exact ⟨4, rfl, by decide, by decide⟩
      · exact ⟨7, rfl, by decide, by decide⟩
      · exact ⟨10, rfl, by decide, by decide⟩
      · exact ⟨10, rfl, by decide, by decide⟩
      · exact ⟨20, rfl, by decide, by decide⟩
      · exact ⟨40, rfl, by decide, by decide⟩
      · exact ⟨100, rfl, by decide, by decide⟩
    refine x_one (x_ret (ev_take (i := 0) H (hr.mono (by decide)) (by kernel_rfl) (by kernel_rfl) rfl (Ed.ev (ed_ix (EdN.ed (edn_lst (eda_cons ed_int (eda_cons ed_int (eda_cons ed_int (eda_cons ed_int (eda_cons ed_int (eda_cons ed_int (eda_cons ed_int (eda_cons ed_int eda_nil)))))))))) (ed_nm 1 (by kernel_rfl) rfl) (ixl_nat hm)) ⟨m, rfl, h1, by omega, by omega, fun r hr => ⟨by omega, _, rfl, by omega, by omega⟩⟩)))
def Pre_kinds (ds : List Dat) : Prop := ∃ K : Nat, ds = [.int (K : Nat)] ∧ 1 ≤ K ∧ K ≤ 100
def R_job (ds : List Dat) (d : Dat) : Prop := ∃ (K : Nat) (j : Jb), ds = [.int (K : Nat)] ∧ d = j.enc ∧ j.k < K ∧ 0 < j.t ∧ j.t ≤ 10 ^ 20 + 1001 ∧ 0 ≤ j.u ∧ j.u ≤ 10 ^ 20 + 1000
abbrev N__law_draw_job : List Str := ["_law_pen", "_law_kinds"]
theorem sc__law_draw_job : FnScope N__law_draw_job ["_law_pen", "_law_kinds"] (defScope s__law_draw_job) := ⟨rfl, rfl, rfl, by decide +kernel, rfl, by decide +kernel, by decide +kernel⟩
theorem ok__law_draw_job {G : Gc} (H : Head G) : HasF G "_law_draw_job" 4 2 (PenSp 2 5 Pre_kinds R_job) := by
  refine H.pen (st := s__law_draw_job) (ps := ["_law_pen", "_law_kinds"]) 44 36 (by kernel_rfl) (by kernel_rfl) sc__law_draw_job (fun _ _ _ _ _ _ us hl => match us, hl with | [_, _], _ => rfl) fun A hr p c n ds hl hP hn => ?_
  have nd := sc__law_draw_job.nd
  obtain ⟨K, rfl, h1, h2⟩ := hP
  refine x_one (x_ret (ev_tup (ea_cons (ev_take (i := 0) H (hr.mono (by decide)) (by kernel_rfl) (by kernel_rfl) rfl (Ed.ev (ed_nm 1 (by kernel_rfl) rfl) ⟨K, rfl, h1, by omega, by omega, fun k hk => ea_cons (ev_op (Ed.ev ed_int (ev_pen0 (i := 0) (ok__law_hours H) (hr.mono (by decide)) (by kernel_rfl) (by kernel_rfl) rfl (by omega) fun d1 ⟨t, e1, t0, t1⟩ => ⟨.int (1 + t), by subst e1; exact o_add, ea_cons (ev_pen0 (i := 0) (ok__law_hours H) (hr.mono (by decide)) (by kernel_rfl) (by kernel_rfl) rfl (by omega) fun d2 ⟨u, e2, u0, u1⟩ => ea_nil ⟨⟨by omega, K, ⟨k, 1 + t, u⟩, rfl, by subst e2; rfl, hk, ?_, ?_, u0, u1⟩, by simp⟩)⟩)))⟩)))))
  · show (0 : Int) < 1 + t
    omega
  · show 1 + t ≤ (10 : Int) ^ 20 + 1001
    omega
abbrev N__law_draw_small : List Str := ["_law_pen", "_law_kinds"]
theorem sc__law_draw_small : FnScope N__law_draw_small ["_law_pen", "_law_kinds"] (defScope s__law_draw_small) := ⟨rfl, rfl, rfl, by decide +kernel, rfl, by decide +kernel, by decide +kernel⟩
theorem ok__law_draw_small {G : Gc} (H : Head G) : HasF G "_law_draw_small" 3 2 (PenSp 2 3 Pre_kinds R_job) := by
  refine H.pen (st := s__law_draw_small) (ps := ["_law_pen", "_law_kinds"]) 45 37 (by kernel_rfl) (by kernel_rfl) sc__law_draw_small (fun _ _ _ _ _ _ us hl => match us, hl with | [_, _], _ => rfl) fun A hr p c n ds hl hP hn => ?_
  have nd := sc__law_draw_small.nd
  obtain ⟨K, rfl, h1, h2⟩ := hP
  refine x_one (x_ret (ev_tup (ea_cons (ev_take (i := 0) H (hr.mono (by decide)) (by kernel_rfl) (by kernel_rfl) rfl (Ed.ev (ed_nm 1 (by kernel_rfl) rfl) ⟨K, rfl, h1, by omega, by omega, fun k hk => ea_cons (ev_op (Ed.ev ed_int (ev_take (i := 0) H (hr.mono (by decide)) (by kernel_rfl) (by kernel_rfl) rfl (Ed.ev ed_int ⟨7, rfl, by decide, by decide, by omega, fun t ht => ⟨.int (1 + (t : Int)), o_add, ea_cons (ev_take (i := 0) H (hr.mono (by decide)) (by kernel_rfl) (by kernel_rfl) rfl (Ed.ev ed_int ⟨20, rfl, by decide, by decide, by omega, fun u hu => ea_nil ⟨⟨by omega, K, ⟨k, 1 + (t : Int), (u : Int)⟩, rfl, rfl, hk, ?_, ?_, ?_, ?_⟩, by simp⟩⟩))⟩⟩))))⟩)))))
  · show (0 : Int) < 1 + (t : Int)
    omega
  · show 1 + (t : Int) ≤ (10 : Int) ^ 20 + 1001
    omega
  · show (0 : Int) ≤ (u : Int)
    omega
  · show (u : Int) ≤ (10 : Int) ^ 20 + 1000
    omega
def R_pr (ds : List Dat) (d : Dat) : Prop := ∃ q : Int × Int, d = pI q ∧ -9 ≤ q.1 ∧ q.1 ≤ 9 ∧ -9 ≤ q.2 ∧ q.2 ≤ 9
def isPr (d : Dat) : Prop := ∃ q : Int × Int, d = pI q ∧ -9 ≤ q.1 ∧ q.1 ≤ 9 ∧ -9 ≤ q.2 ∧ q.2 ≤ 9
theorem isPr_mem {xs : List (Int × Int)} (h : ∀ q ∈ xs, -9 ≤ q.1 ∧ q.1 ≤ 9 ∧ -9 ≤ q.2 ∧ q.2 ≤ 9) {d : Dat} (hd : d ∈ xs.map pI) : isPr d := by
  obtain ⟨q, hq, rfl⟩ := List.mem_map.mp hd
  exact ⟨q, rfl, h q hq⟩
abbrev N__law_draw_term : List Str := ["_law_pen"]
theorem sc__law_draw_term : FnScope N__law_draw_term ["_law_pen"] (defScope s__law_draw_term) := ⟨rfl, rfl, rfl, by decide +kernel, rfl, by decide +kernel, by decide +kernel⟩
theorem ok__law_draw_term {G : Gc} (H : Head G) : HasF G "_law_draw_term" 4 1 (PenSp 1 3 (fun _ => True) R_pr) := by
  refine H.pen (st := s__law_draw_term) (ps := ["_law_pen"]) 46 38 (by kernel_rfl) (by kernel_rfl) sc__law_draw_term (fun _ _ _ _ _ _ us hl => match us, hl with | [_], _ => rfl) fun A hr p c n ds hl hP hn => ?_
  have nd := sc__law_draw_term.nd
  have e0 : ds = [] := List.length_eq_zero_iff.mp (by simpa using hl)
  subst e0
  refine x_cons (x_if (et_cmp (ev_take (i := 0) H (hr.mono (by decide)) (by kernel_rfl) (by kernel_rfl) rfl (Ed.ev ed_int ⟨3, rfl, by decide, by decide, by omega, fun w hw => Ed.ev ed_int ⟨_, o_gt, fun h => ?_, fun h => x_nil ?_⟩⟩))))
  · refine x_one (x_ret (ev_one (i := 0) H (hr.mono (by decide)) (by kernel_rfl) (by kernel_rfl) rfl (Ed.ev (EdN.ed (edn_lst (eda_cons (ed_tup (eda_cons ed_int (eda_cons ed_int eda_nil))) (eda_cons (ed_tup (eda_cons ed_int (eda_cons ed_int eda_nil))) (eda_cons (ed_tup (eda_cons ed_int (eda_cons (ed_neg ed_int) eda_nil))) (eda_cons (ed_tup (eda_cons ed_int (eda_cons ed_int eda_nil))) (eda_cons (ed_tup (eda_cons ed_int (eda_cons ed_int eda_nil))) (eda_cons (ed_tup (eda_cons ed_int (eda_cons (ed_neg ed_int) eda_nil))) (eda_cons (ed_tup (eda_cons ed_int (eda_cons ed_int eda_nil))) (eda_cons (ed_tup (eda_cons (ed_neg ed_int) (eda_cons ed_int eda_nil))) eda_nil)))))))))) ⟨_, rfl, by simp, by simp, by omega, fun d hd => ⟨by omega, isPr_mem (xs := [(1, 0), (0, 1), (1, -1), (0, 0), (3, 0), (2, -2), (1, 1), (-1, 1)]) (by decide) hd⟩⟩)))
  · refine x_one (x_ret (ev_tup (ea_cons (ev_op (ev_take (i := 0) H (hr.mono (by decide)) (by kernel_rfl) (by kernel_rfl) rfl (Ed.ev ed_int ⟨19, rfl, by decide, by decide, by omega, fun a ha => Ed.ev ed_int ⟨_, o_sub, ea_cons (ev_op (ev_take (i := 0) H (hr.mono (by decide)) (by kernel_rfl) (by kernel_rfl) rfl (Ed.ev ed_int ⟨19, rfl, by decide, by decide, by omega, fun b hb => Ed.ev ed_int ⟨_, o_sub, ea_nil ⟨⟨by omega, ((a : Int) - 9, (b : Int) - 9), rfl, ?_⟩, by simp⟩⟩⟩)))⟩⟩))))))
    show -9 ≤ (a : Int) - 9 ∧ (a : Int) - 9 ≤ 9 ∧ -9 ≤ (b : Int) - 9 ∧ (b : Int) - 9 ≤ 9
    omega
abbrev N__law_draw_key : List Str := ["_law_pen"]
theorem sc__law_draw_key : FnScope N__law_draw_key ["_law_pen"] (defScope s__law_draw_key) := ⟨rfl, rfl, rfl, by decide +kernel, rfl, by decide +kernel, by decide +kernel⟩
theorem ok__law_draw_key {G : Gc} (H : Head G) : HasF G "_law_draw_key" 4 1 (PenSp 1 3 (fun _ => True) R_pr) := by
  refine H.pen (st := s__law_draw_key) (ps := ["_law_pen"]) 49 41 (by kernel_rfl) (by kernel_rfl) sc__law_draw_key (fun _ _ _ _ _ _ us hl => match us, hl with | [_], _ => rfl) fun A hr p c n ds hl hP hn => ?_
  have nd := sc__law_draw_key.nd
  have e0 : ds = [] := List.length_eq_zero_iff.mp (by simpa using hl)
  subst e0
  refine x_cons (x_if (et_cmp (ev_take (i := 0) H (hr.mono (by decide)) (by kernel_rfl) (by kernel_rfl) rfl (Ed.ev ed_int ⟨4, rfl, by decide, by decide, by omega, fun w hw => Ed.ev ed_int ⟨_, o_gt, fun h => ?_, fun h => x_nil ?_⟩⟩))))
  · refine x_one (x_ret (ev_one (i := 0) H (hr.mono (by decide)) (by kernel_rfl) (by kernel_rfl) rfl (Ed.ev (EdN.ed (edn_lst (eda_cons (ed_tup (eda_cons ed_int (eda_cons ed_int eda_nil))) (eda_cons (ed_tup (eda_cons ed_int (eda_cons ed_int eda_nil))) (eda_cons (ed_tup (eda_cons (ed_neg ed_int) (eda_cons ed_int eda_nil))) (eda_cons (ed_tup (eda_cons ed_int (eda_cons ed_int eda_nil))) (eda_cons (ed_tup (eda_cons ed_int (eda_cons ed_int eda_nil))) (eda_cons (ed_tup (eda_cons ed_int (eda_cons ed_int eda_nil))) (eda_cons (ed_tup (eda_cons ed_int (eda_cons (ed_neg ed_int) eda_nil))) (eda_cons (ed_tup (eda_cons (ed_neg ed_int) (eda_cons ed_int eda_nil))) (eda_cons (ed_tup (eda_cons ed_int (eda_cons ed_int eda_nil))) eda_nil))))))))))) ⟨_, rfl, by simp, by simp, by omega, fun d hd => ⟨by omega, isPr_mem (xs := [(1, 0), (0, 1), (-1, 1), (0, 0), (3, 0), (1, 1), (0, -1), (-1, 0), (2, 0)]) (by decide) hd⟩⟩)))
  · refine x_one (x_ret (ev_tup (ea_cons (ev_op (ev_take (i := 0) H (hr.mono (by decide)) (by kernel_rfl) (by kernel_rfl) rfl (Ed.ev ed_int ⟨19, rfl, by decide, by decide, by omega, fun a ha => Ed.ev ed_int ⟨_, o_sub, ea_cons (ev_op (ev_take (i := 0) H (hr.mono (by decide)) (by kernel_rfl) (by kernel_rfl) rfl (Ed.ev ed_int ⟨19, rfl, by decide, by decide, by omega, fun b hb => Ed.ev ed_int ⟨_, o_sub, ea_nil ⟨⟨by omega, ((a : Int) - 9, (b : Int) - 9), rfl, ?_⟩, by simp⟩⟩⟩)))⟩⟩))))))
    show -9 ≤ (a : Int) - 9 ∧ (a : Int) - 9 ≤ 9 ∧ -9 ≤ (b : Int) - 9 ∧ (b : Int) - 9 ≤ 9
    omega
end Kb
namespace Kb
open PySem PySem.Spec PyProof.Rows L2
section
variable {S : Sg} {g : Wd} {e tg elt iter : Expr} {ρ : En} {n : Nat} {p pos : Pos}
theorem ev_tupleL {K : Nat → Dat → Prop} (hg : glB S.sc "tuple" = true) (hm : S.mg "tuple" = none) (h : EvN S g e ρ n fun n1 xs => K n1 (.tup xs)) (he : ∀ env, starEach [e] env = (false, eval e env) :: starEach [] env := by intro _; rfl) : Ev S g (.Call (.Name "tuple" p) [e] [] pos) ρ n K :=
  ev_bty hg hm PyProof.Rows.boot_tuple (ea_cons (EvN.ev (h.imp fun n1 xs k => ea_nil (c_tupL k))) he) (by decide) he
/-- a comprehension each of whose turns draws -/
theorem evn_drawn {cst : Nat} {P : Dat → Prop} {scope : Scope} {K : Nat → List Dat → Prop} (nd : S.N.Nodup) (own : List (Str × Nat)) (ok : blkC S.N S.sc scope own = true)
    (hi : EvI S g tg iter ρ n fun n1 xs => xs.length ≤ 1000 ∧ n1 + cst * xs.length ≤ 100000 ∧ ∀ n2 acc, n2 ≤ n1 + cst * xs.length → acc.length = xs.length → (∀ d ∈ acc, P d) → K n2 acc)
    (h : ∀ x n2, n2 + cst ≤ 100000 → ∃ is ρ2, (∀ j ∈ is, j ∈ own.map (·.2)) ∧ Gd (S.blk scope) g tg (wipeE ρ (own.map (·.2))) x is ρ2 ∧ Ev (S.blk scope) g elt ρ2 n2 fun n3 d => n3 ≤ n2 + cst ∧ P d)
    (hs : ∀ env x, foldedSetIterable iter env x = pure x := by intro _ _; rfl) : EvN S g (.ListComp elt [⟨tg, iter, [], 0⟩] scope pos) ρ n K :=
  evn_lc nd own ok (fun M Hb ad σ H E R q => hi M Hb ad σ H E R fun n1 J H1 xs k1 j1 y1 ⟨hz, hc, hk⟩ => q n1 J H1 xs k1 j1 y1 ⟨fun i n2 acc => n2 ≤ n1 + cst * i ∧ acc.length = i ∧ ∀ d ∈ acc, P d, ⟨by omega, rfl, fun d z => by cases z⟩, fun i x n2 acc ex ⟨h1, h2, h3⟩ => by
    have hil : i < xs.length := (List.getElem?_eq_some_iff.mp ex).1
    have hm : cst * (i + 1) ≤ cst * xs.length := Nat.mul_le_mul_left _ hil
    have hm2 : cst * (i + 1) = cst * i + cst := Nat.mul_succ _ _
    obtain ⟨is, ρ2, a1, a2, a3⟩ := h x n2 (by omega)
    exact ⟨by omega, is, ρ2, a1, a2, ets_nil ⟨fun _ => a3.imp fun n3 d ⟨b1, b2⟩ => ⟨by omega, by rw [List.length_append, h2]; rfl, fun d' hd' => by
      rcases List.mem_append.mp hd' with z | z
      · exact h3 d' z
      · rw [List.mem_singleton.mp z]; exact b2⟩, fun z => by cases z⟩⟩, fun n2 acc ⟨h1, h2, h3⟩ => hk n2 acc h1 h2 h3⟩) hs
end
theorem isPrs {acc : List Dat} (h : ∀ d ∈ acc, isPr d) : ∃ l : List (Int × Int), acc = l.map pI ∧ ∀ q ∈ l, -9 ≤ q.1 ∧ q.1 ≤ 9 ∧ -9 ≤ q.2 ∧ q.2 ≤ 9 := by
  induction acc with
  | nil => exact ⟨[], rfl, fun q z => by cases z⟩
  | cons d acc ih =>
    obtain ⟨l, e, hl⟩ := ih fun d' z => h d' (List.mem_cons_of_mem _ z)
    obtain ⟨q, eq, hq⟩ := h d List.mem_cons_self
    refine ⟨q :: l, by rw [e, eq]; rfl, fun q' z => ?_⟩
    rcases List.mem_cons.mp z with z | z
    · rw [z]; exact hq
    · exact hl q' z
abbrev N__law_draw_rule : List Str := ["_law_pen", "_law_kinds", "_law_k"]
theorem sc__law_draw_rule : FnScope N__law_draw_rule ["_law_pen", "_law_kinds"] (defScope s__law_draw_rule) := ⟨rfl, rfl, rfl, by decide +kernel, rfl, by decide +kernel, by decide +kernel⟩
def Pre_rule (ds : List Dat) : Prop := ∃ K : Nat, ds = [.int (K : Nat)] ∧ 1 ≤ K ∧ K ≤ 3
def R_rule (ds : List Dat) (d : Dat) : Prop := ∃ (K : Nat) (l : List (Int × Int)), ds = [.int (K : Nat)] ∧ d = .tup (l.map pI) ∧ l.length = K ∧ ∀ q ∈ l, -9 ≤ q.1 ∧ q.1 ≤ 9 ∧ -9 ≤ q.2 ∧ q.2 ≤ 9
theorem ok__law_draw_rule {G : Gc} (H : Head G) : HasF G "_law_draw_rule" 5 2 (PenSp 2 9 Pre_rule R_rule) := by
  refine H.pen (st := s__law_draw_rule) (ps := ["_law_pen", "_law_kinds"]) 50 42 (by kernel_rfl) (by kernel_rfl) sc__law_draw_rule (fun _ _ _ _ _ _ us hl => match us, hl with | [_, _], _ => rfl) fun A hr p c n ds hl hP hn => ?_
  have nd := sc__law_draw_rule.nd
  obtain ⟨K, rfl, h1, h3⟩ := hP
  refine x_one (x_ret (ev_tupleL (by kernel_rfl) (H.free 78) (evn_drawn (cst := 3) (P := isPr) nd [("_law_k", 2)] (by kernel_rfl) (EdI.ev (edi_rng1 (by kernel_rfl) (H.free 73) (ed_nm 1 (by kernel_rfl) rfl) (by omega) (by omega)) ?_) (fun x n2 hn2 => ⟨_, _, (by simp), (gd_nm nd 2 (by kernel_rfl)), ev_pen0 (i := 0) (ok__law_draw_key H) (hr.mono (by decide)) (by kernel_rfl) (by kernel_rfl) rfl (by omega) fun d1 h => ⟨by omega, h⟩⟩))))
  rw [Int.toNat_natCast, rgD_len]
  refine ⟨by omega, by omega, fun n2 acc e1 e2 e3 => ⟨by omega, ?_⟩⟩
  obtain ⟨l, rfl, hq⟩ := isPrs e3
  exact ⟨K, l, rfl, rfl, by rw [← e2, List.length_map], hq⟩
abbrev N__law_draw_entry : List Str := ["_law_pen", "_law_most", "_law_found"]
theorem sc__law_draw_entry : FnScope N__law_draw_entry ["_law_pen", "_law_most"] (defScope s__law_draw_entry) := ⟨rfl, rfl, rfl, by decide +kernel, rfl, by decide +kernel, by decide +kernel⟩
def Pre_entry (ds : List Dat) : Prop := ∃ t : Int, ds = [.int t]
/-- a small entry -/
def smE (l : List (Int × Int)) : Prop := l ≠ [] ∧ l.length ≤ 2 ∧ ∀ q ∈ l, -9 ≤ q.1 ∧ q.1 ≤ 9 ∧ -9 ≤ q.2 ∧ q.2 ≤ 9
def R_entry (ds : List Dat) (d : Dat) : Prop := ∃ l : List (Int × Int), d = eE l ∧ smE l
theorem ok__law_draw_entry {G : Gc} (H : Head G) : HasF G "_law_draw_entry" 5 2 (PenSp 2 7 Pre_entry R_entry) := by
  refine H.pen (st := s__law_draw_entry) (ps := ["_law_pen", "_law_most"]) 47 39 (by kernel_rfl) (by kernel_rfl) sc__law_draw_entry (fun _ _ _ _ _ _ us hl => match us, hl with | [_, _], _ => rfl) fun A hr p c n ds hl hP hn => ?_
  have nd := sc__law_draw_entry.nd
  obtain ⟨t, rfl⟩ := hP
  refine x_cons (x_setN nd 2 (by kernel_rfl) (by simp [startE]) (evn_lst (ea_cons (ev_pen0 (i := 0) (ok__law_draw_term H) (hr.mono (by decide)) (by kernel_rfl) (by kernel_rfl) rfl (by omega) fun d1 ⟨q1, e1, b1⟩ => ea_nil ⟨?_, by simp⟩))))
  subst e1
  refine x_consI (fun n' ρ' => n' ≤ n + 7 ∧ ∃ l : List (Int × Int), smE l ∧ ρ' = [.raw p, .dat (.int t), .own (l.map pI)]) (x_if (et_w (ew_and (EdT.ev (etd_cmp (ed_nm 1 (by kernel_rfl) rfl) ed_int o_gt) ⟨fun h => ew_and1 (et_cmp (ev_take (i := 0) H (hr.mono (by decide)) (by kernel_rfl) (by kernel_rfl) rfl (Ed.ev ed_int ⟨2, rfl, by decide, by decide, by omega, fun w hw => Ed.ev ed_int ⟨_, o_eq, fun h => ?_, fun h => x_nil ?_⟩⟩))), fun h => ⟨fun z => absurd z (by decide), fun _ => x_nil ?_⟩⟩)))) fun n' ρ' ⟨hn', l, hl, er⟩ => ?_
  · refine x_one (x_app 2 (by kernel_rfl) rfl (by simp) (ev_pen0 (i := 0) (ok__law_draw_term H) (hr.mono (by decide)) (by kernel_rfl) (by kernel_rfl) rfl (by omega) fun d2 ⟨q2, e2, b2⟩ => ⟨by omega, [q1, q2], ⟨by simp, by simp, fun q hq => ?_⟩, by subst e2; rfl⟩))
    simp at hq
    rcases hq with rfl | rfl
    · exact b1
    · exact b2
  · exact ⟨by omega, [q1], ⟨by simp, by simp, fun q hq => by rw [List.mem_singleton.mp hq]; exact b1⟩, rfl⟩
  · exact ⟨by omega, [q1], ⟨by simp, by simp, fun q hq => by rw [List.mem_singleton.mp hq]; exact b1⟩, rfl⟩
  · subst er
    refine x_freeze (i := 2) rfl (x_one (x_ret (ev_tupleL (by kernel_rfl) (H.free 78) (evn_sortSet hr (by kernel_rfl) (H.free 75) (by kernel_rfl) (H.free 74) (Ed.ev (ed_nm 2 (by kernel_rfl) rfl) ⟨l, rfl, by have := hl.2.1; omega, fun ms m1 m2 m3 => ⟨hn', ms, rfl, ?_, by have := hl.2.1; omega, fun q hq => hl.2.2 q (m1 q hq)⟩⟩)))))
    intro z
    rw [z] at m2
    cases hc : l with
    | nil => exact hl.1 hc
    | cons q l2 =>
      have := m2 q (by rw [hc]; exact List.mem_cons_self)
      cases this
end Kb
namespace Kb
open PySem PySem.Spec PyProof.Rows L2
section
variable {S : Sg} {g : Wd} {e tg elt iter : Expr} {ρ : En} {n : Nat} {p pos : Pos}
theorem EdA.ev {es : List Expr} {ds : List Dat} {K : Nat → List Dat → Prop} (h : EdA S g es ρ ds) (k : K n ds) : EvA S g es ρ n K := (h n).imp fun _ _ z => by rw [z.1, z.2]; exact k
theorem lc_drawn {cst : Nat} {P : Dat → Prop} {scope : Scope} {K : Nat → List Dat → Prop} (own : List (Str × Nat))
    (hi : EvI S g tg iter ρ n fun n1 xs => xs.length ≤ 1000 ∧ n1 + cst * xs.length ≤ 100000 ∧ ∀ n2 acc, n2 ≤ n1 + cst * xs.length → acc.length = xs.length → (∀ d ∈ acc, P d) → K n2 acc)
    (h : ∀ x n2, n2 + cst ≤ 100000 → ∃ is ρ2, (∀ j ∈ is, j ∈ own.map (·.2)) ∧ Gd (S.blk scope) g tg (wipeE ρ (own.map (·.2))) x is ρ2 ∧ Ev (S.blk scope) g elt ρ2 n2 fun n3 d => n3 ≤ n2 + cst ∧ P d) :
    EvI S g tg iter ρ n fun n1 xs => ∃ I, Lc (S.blk scope) g tg elt [] (wipeE ρ (own.map (·.2))) (own.map (·.2)) n1 xs K I :=
  fun M Hb ad σ H E R q => hi M Hb ad σ H E R fun n1 J H1 xs k1 j1 y1 ⟨hz, hc, hk⟩ => q n1 J H1 xs k1 j1 y1 ⟨fun i n2 acc => n2 ≤ n1 + cst * i ∧ acc.length = i ∧ ∀ d ∈ acc, P d, ⟨by omega, rfl, fun d z => by cases z⟩, fun i x n2 acc ex ⟨h1, h2, h3⟩ => by
    have hil : i < xs.length := (List.getElem?_eq_some_iff.mp ex).1
    have hm : cst * (i + 1) ≤ cst * xs.length := Nat.mul_le_mul_left _ hil
    have hm2 : cst * (i + 1) = cst * i + cst := Nat.mul_succ _ _
    obtain ⟨is, ρ2, a1, a2, a3⟩ := h x n2 (by omega)
    exact ⟨by omega, is, ρ2, a1, a2, ets_nil ⟨fun _ => a3.imp fun n3 d ⟨b1, b2⟩ => ⟨by omega, by rw [List.length_append, h2]; rfl, fun d' hd' => by
      rcases List.mem_append.mp hd' with z | z
      · exact h3 d' z
      · rw [List.mem_singleton.mp z]; exact b2⟩, fun z => by cases z⟩⟩, fun n2 acc ⟨h1, h2, h3⟩ => hk n2 acc h1 h2 h3⟩
end
abbrev N__law_draw_measure : List Str := ["_law_pen", "_law_kinds", "_law_terms", "_law_ways", "_law_way", "_law_many", "_law_entries", "_law_k"]
theorem sc__law_draw_measure : FnScope N__law_draw_measure ["_law_pen", "_law_kinds", "_law_terms", "_law_ways"] (defScope s__law_draw_measure) := ⟨rfl, rfl, rfl, by decide +kernel, rfl, by decide +kernel, by decide +kernel⟩
abbrev waysD : Dat := .lst [.str "sum", .str "max", .str "sum", .str "max", .str "late"]
def Pre_measure (ds : List Dat) : Prop := ds = [.int 3, .int 5, waysD]
theorem smE.ok {l : List (Int × Int)} (h : smE l) : okT l := ⟨h.1, by have := h.2.1; omega, fun q hq => by
  have := h.2.2 q hq
  exact ⟨by show q.1.natAbs < 2 ^ 64; omega, by show q.2.natAbs < 2 ^ 64; omega⟩⟩
/-- a small measure -/
def smM (m : Ms) : Prop := m.Ok ∧ 1 ≤ m.len ∧ m.len ≤ 3
def R_measure (ds : List Dat) (d : Dat) : Prop := ∃ m : Ms, d = m.enc ∧ smM m
theorem ok__law_draw_measure {G : Gc} (H : Head G) : HasF G "_law_draw_measure" 6 4 (PenSp 4 23 Pre_measure R_measure) := by
  refine H.pen (st := s__law_draw_measure) (ps := ["_law_pen", "_law_kinds", "_law_terms", "_law_ways"]) 48 40 (by kernel_rfl) (by kernel_rfl) sc__law_draw_measure (fun _ _ _ _ _ _ us hl => match us, hl with | [_, _, _, _], _ => rfl) fun A hr p c n ds hl hP hn => ?_
  have nd := sc__law_draw_measure.nd
  have hP : ds = [.int 3, .int 5, waysD] := hP
  subst hP
  refine x_cons (x_set nd 4 (by kernel_rfl) (ev_one (i := 0) H (hr.mono (by decide)) (by kernel_rfl) (by kernel_rfl) rfl (Ed.ev (ed_nm 3 (by kernel_rfl) rfl) ⟨_, rfl, by simp, by simp, by omega, fun d hd => ?_⟩)))
  have hw : ∃ w : Str, d = .str w ∧ (w = "late" ∨ (w = "sum" ∨ w = "max")) := by
    simp at hd
    rcases hd with rfl | rfl | rfl | rfl | rfl
    · exact ⟨_, rfl, .inr (.inl rfl)⟩
    · exact ⟨_, rfl, .inr (.inr rfl)⟩
    · exact ⟨_, rfl, .inr (.inl rfl)⟩
    · exact ⟨_, rfl, .inr (.inr rfl)⟩
    · exact ⟨_, rfl, .inl rfl⟩
  clear hd
  obtain ⟨w, rfl, hw⟩ := hw
  refine x_cons (x_par2 nd 5 6 ⟨rfl, rfl⟩ ⟨rfl, rfl⟩ (by decide) (by simp [startE]) (by kernel_rfl) (era_dat (ev_op (Ed.ev ed_int (ev_take (i := 0) H (hr.mono (by decide)) (by kernel_rfl) (by kernel_rfl) rfl (Ed.ev (ed_nm 1 (by kernel_rfl) rfl) ⟨3, rfl, by decide, by decide, by omega, fun r hr3 => ⟨_, o_add, era_new (EdN.ev (edn_lst eda_nil) (era_nil ⟨rfl, ?_⟩))⟩⟩))))))
  have hm : ((1 : Int) + (r : Int)).toNat = r + 1 := by omega
  rcases hw with hw | hw
  · subst hw
    refine x_cons (x_for (EdI.ev (edi_rng1 (by kernel_rfl) (H.free 73) (ed_nm 5 (by kernel_rfl) rfl) (by omega) (by omega)) ⟨fun i n' ρ' => n' ≤ n + 2 + 2 * i ∧ ∃ (ws : List Int) (kk : Sl), ws.length = i ∧ (∀ w ∈ ws, 0 < w ∧ w ≤ 9) ∧ ρ' = [.raw p, .dat (.int 3), .dat (.int 5), .dat waysD, .dat (.str "late"), .dat (.int (1 + (r : Int))), .own (ws.map Dat.int), kk], ⟨by omega, [], .no, rfl, fun w z => absurd z List.not_mem_nil, rfl⟩, fun i z n2 ρ2 hz ⟨e1, ws, kk, e2, e3, e4⟩ => ?_, fun n2 ρ2 ⟨e1, ws, kk, e2, e3, e4⟩ => ?_⟩))
    · subst e4
      rw [hm] at hz
      obtain ⟨hi, rfl⟩ := rgD_at hz
      refine ⟨_, _, gd_nm nd 7 (by kernel_rfl), x_one (xd_if (b := true) (etd_cmp (ed_nm 4 (by kernel_rfl) rfl) ed_str o_eqS) (fun _ => x_one (x_app 6 (by kernel_rfl) rfl (by rw [List.length_map]; omega) (ev_op (Ed.ev ed_int (ev_take (i := 0) H (hr.mono (by decide)) (by kernel_rfl) (by kernel_rfl) rfl (ev_one (i := 0) H (hr.mono (by decide)) (by kernel_rfl) (by kernel_rfl) rfl (Ed.ev (EdN.ed (edn_lst (eda_cons ed_int (eda_cons ed_int eda_nil)))) ⟨_, rfl, by simp, by simp, by omega, fun d hd => ?_⟩))))))) fun h => by cases h)⟩
      obtain ⟨mm, rfl, hmm⟩ : ∃ mm : Nat, d = .int (mm : Nat) ∧ (mm = 2 ∨ mm = 9) := by
        simp at hd
        rcases hd with rfl | rfl
        · exact ⟨2, rfl, .inl rfl⟩
        · exact ⟨9, rfl, .inr rfl⟩
      refine ⟨mm, rfl, by omega, by omega, by omega, fun t ht => ⟨.int (1 + (t : Int)), o_add, by omega, ws ++ [1 + (t : Int)], .dat (.int (i : Nat)), by rw [List.length_append, e2]; rfl, fun w hw => ?_, by rw [List.map_append]; rfl⟩⟩
      rcases List.mem_append.mp hw with z | z
      · exact e3 w z
      · rw [List.mem_singleton.mp z]; omega
    · subst e4
      rw [hm, rgD_len] at e1 e2
      refine x_freeze (i := 6) rfl (x_one (x_ret (Ed.ev (ed_tup (eda_cons (ed_nm 4 (by kernel_rfl) rfl) (eda_cons (ed_tupleL (by kernel_rfl) (H.free 78) (ed_nm 6 (by kernel_rfl) rfl)) eda_nil)) (by simp)) ⟨by omega, .late ws, rfl, ⟨by show ws.length ≤ 20; omega, fun w hw => ?_⟩, by show 1 ≤ ws.length; omega, by show ws.length ≤ 3; omega⟩)))
      have := e3 w hw
      exact ⟨this.1, by show w.natAbs < 2 ^ 64; omega⟩
  · have hwl : decide (w = "late") = false := by rcases hw with rfl | rfl <;> decide
    refine x_cons (x_for (EdI.ev (edi_rng1 (by kernel_rfl) (H.free 73) (ed_nm 5 (by kernel_rfl) rfl) (by omega) (by omega)) ⟨fun i n' ρ' => n' ≤ n + 2 + 7 * i ∧ ∃ (es : List (List (Int × Int))) (tm : Int) (kk : Sl), es.length = i ∧ (∀ l ∈ es, smE l) ∧ ρ' = [.raw p, .dat (.int 3), .dat (.int tm), .dat waysD, .dat (.str w), .dat (.int (1 + (r : Int))), .own (es.map eE), kk], ⟨by omega, [], 5, .no, rfl, fun w z => absurd z List.not_mem_nil, rfl⟩, fun i z n2 ρ2 hz ⟨e1, es, tm, kk, e2, e3, e4⟩ => ?_, fun n2 ρ2 ⟨e1, es, tm, kk, e2, e3, e4⟩ => ?_⟩))
    · subst e4
      rw [hm] at hz
      obtain ⟨hi, rfl⟩ := rgD_at hz
      refine ⟨_, _, gd_nm nd 7 (by kernel_rfl), x_one (xd_if (b := false) (EdT.is (etd_cmp (ed_nm 4 (by kernel_rfl) rfl) ed_str o_eqS) hwl) (fun h => by cases h) fun _ => ?_)⟩
      refine x_cons (x_app 6 (by kernel_rfl) rfl (by rw [List.length_map]; omega) (ev_pcall (ok__law_draw_entry H) (hr.mono (by decide)) (by kernel_rfl) (i := 0) (by kernel_rfl) rfl (EdA.ev (eda_cons (ed_op (ed_nm 2 (by kernel_rfl) rfl) (ed_op (ed_op (ed_nm 5 (by kernel_rfl) rfl) ed_int o_sub) (ed_nm 7 (by kernel_rfl) rfl) o_sub) o_sub) eda_nil) ⟨rfl, ⟨_, rfl⟩, by omega, fun d ⟨l, ed, hl⟩ => ?_⟩)))
      subst ed
      have hg : (es.map eE ++ [eE l])[i]? = some (eE l) := by rw [List.getElem?_append_right (by rw [List.length_map]; omega), List.length_map, e2, Nat.sub_self]; rfl
      refine x_one (x_set nd 2 (by kernel_rfl) (ev_op (Ed.ev (ed_nm 2 (by kernel_rfl) rfl) (ev_peek (i := 6) rfl (Ed.ev (ed_len (xs := l.map pI) (by kernel_rfl) (H.free 69) (ed_ix (ed_nm 6 (by kernel_rfl) rfl) (ed_nm 7 (by kernel_rfl) rfl) (ixl_nat hg)) (by exact rfl)) ⟨⟨_, rfl⟩, _, o_sub, ?_⟩)))))
      refine ⟨by omega, es ++ [l], _, .dat (.int (i : Nat)), by rw [List.length_append, e2]; rfl, fun l' hl' => ?_, by rw [List.map_append]; rfl⟩
      rcases List.mem_append.mp hl' with z | z
      · exact e3 l' z
      · rw [List.mem_singleton.mp z]; exact hl
    · subst e4
      rw [hm, rgD_len] at e1 e2
      refine x_freeze (i := 6) rfl (x_one (x_ret (Ed.ev (ed_tup (eda_cons (ed_nm 4 (by kernel_rfl) rfl) (eda_cons (ed_tupleL (by kernel_rfl) (H.free 78) (ed_nm 6 (by kernel_rfl) rfl)) eda_nil)) (by simp)) ⟨by omega, ?_⟩)))
      rcases hw with rfl | rfl
      · exact ⟨.sum es, rfl, ⟨by show es.length ≤ 20; omega, fun l hl => (e3 l hl).ok⟩, by show 1 ≤ es.length; omega, by show es.length ≤ 3; omega⟩
      · exact ⟨.max es, rfl, ⟨by show es.length ≤ 20; omega, fun l hl => (e3 l hl).ok⟩, by show 1 ≤ es.length; omega, by show es.length ≤ 3; omega⟩
end Kb
namespace Kb
open PySem PySem.Spec PyProof.Rows L2
def jbOk (K : Nat) (j : Jb) : Prop := j.k < K ∧ 0 < j.t ∧ j.t ≤ 10 ^ 20 + 1001 ∧ 0 ≤ j.u ∧ j.u ≤ 10 ^ 20 + 1002
theorem jbOk.ok {K : Nat} {j : Jb} (h : jbOk K j) : j.Ok K := by
  obtain ⟨h1, h2, h3, h4, h5⟩ := h
  exact ⟨h1, ⟨h2, by show j.t.natAbs < 2 ^ 69; omega⟩, ⟨h4, by show j.u.natAbs < 2 ^ 69; omega⟩⟩
def isJb (K : Nat) (d : Dat) : Prop := ∃ j : Jb, d = j.enc ∧ j.k < K ∧ 0 < j.t ∧ j.t ≤ 10 ^ 20 + 1001 ∧ 0 ≤ j.u ∧ j.u ≤ 10 ^ 20 + 1000
theorem isJbs {K : Nat} {acc : List Dat} (h : ∀ d ∈ acc, isJb K d) : ∃ l : List Jb, acc = l.map Jb.enc ∧ ∀ j ∈ l, j.k < K ∧ 0 < j.t ∧ j.t ≤ 10 ^ 20 + 1001 ∧ 0 ≤ j.u ∧ j.u ≤ 10 ^ 20 + 1000 := by
  induction acc with
  | nil => exact ⟨[], rfl, fun q z => by cases z⟩
  | cons d acc ih =>
    obtain ⟨l, e, hl⟩ := ih fun d' z => h d' (List.mem_cons_of_mem _ z)
    obtain ⟨q, eq, hq⟩ := h d List.mem_cons_self
    refine ⟨q :: l, by rw [e, eq]; rfl, fun q' z => ?_⟩
    rcases List.mem_cons.mp z with z | z
    · rw [z]; exact hq
    · exact hl q' z
theorem isJb_job {K : Nat} {d : Dat} (h : R_job [.int (K : Nat)] d) : isJb K d := by
  obtain ⟨K', j, e, h1, h2, h3⟩ := h
  have e2 : K = K' := by
    have := (List.cons.inj e).1
    injection this with z
    omega
  subst e2
  exact ⟨j, h1, h2, h3⟩
abbrev N__law_draw_catalogue : List Str := ["_law_pen", "_law_kinds", "_law_most", "_law_found", "_law_k"]
theorem sc__law_draw_catalogue : FnScope N__law_draw_catalogue ["_law_pen", "_law_kinds", "_law_most"] (defScope s__law_draw_catalogue) := ⟨rfl, rfl, rfl, by decide +kernel, rfl, by decide +kernel, by decide +kernel⟩
def Pre_cat (ds : List Dat) : Prop := ∃ K : Nat, ds = [.int (K : Nat), .int 4] ∧ 1 ≤ K ∧ K ≤ 100
def R_cat (ds : List Dat) (d : Dat) : Prop := ∃ (K : Nat) (cat : List Jb), ds = [.int (K : Nat), .int 4] ∧ d = .tup (cat.map Jb.enc) ∧ 1 ≤ cat.length ∧ cat.length ≤ 4 ∧ ∀ j ∈ cat, jbOk K j
theorem ok__law_draw_catalogue {G : Gc} (H : Head G) : HasF G "_law_draw_catalogue" 5 3 (PenSp 3 30 Pre_cat R_cat) := by
  refine H.pen (st := s__law_draw_catalogue) (ps := ["_law_pen", "_law_kinds", "_law_most"]) 65 57 (by kernel_rfl) (by kernel_rfl) sc__law_draw_catalogue (fun _ _ _ _ _ _ us hl => match us, hl with | [_, _, _], _ => rfl) fun A hr p c n ds hl hP hn => ?_
  have nd := sc__law_draw_catalogue.nd
  obtain ⟨K, rfl, h1, h2⟩ := hP
  refine x_consI (fun n' ρ' => n' ≤ n + 13 ∧ ∃ cat : List Jb, 1 ≤ cat.length ∧ cat.length ≤ 4 ∧ (∀ j ∈ cat, j.k < K ∧ 0 < j.t ∧ j.t ≤ 10 ^ 20 + 1001 ∧ 0 ≤ j.u ∧ j.u ≤ 10 ^ 20 + 1000) ∧ ρ' = [.raw p, .dat (.int (K : Nat)), .dat (.int 4), .own (cat.map Jb.enc), .no]) (x_setLc nd 3 (by kernel_rfl) [("_law_k", 4)] (by kernel_rfl) (lc_drawn (cst := 3) (P := isJb K) (K := fun n2 acc => n2 ≤ n + 13 ∧ 1 ≤ acc.length ∧ acc.length ≤ 4 ∧ ∀ d ∈ acc, isJb K d) [("_law_k", 4)] (ei_rng1 (by kernel_rfl) (H.free 73) (ev_op (Ed.ev ed_int (ev_take (i := 0) H (hr.mono (by decide)) (by kernel_rfl) (by kernel_rfl) rfl (Ed.ev (ed_nm 2 (by kernel_rfl) rfl) ⟨4, rfl, by decide, by decide, by omega, fun r hr4 => ⟨_, o_add, _, rfl, by omega, by omega, ?_⟩⟩))))) fun x n2 hn2 => ⟨_, _, (by simp), (gd_nm nd 4 (by kernel_rfl)), ev_pcall (ok__law_draw_small H) (hr.mono (by decide)) (by kernel_rfl) (i := 0) (by kernel_rfl) rfl (EdA.ev (eda_cons (ed_nm 1 (by kernel_rfl) rfl) eda_nil) ⟨rfl, ⟨K, rfl, h1, h2⟩, by omega, fun d hd => ⟨by omega, isJb_job hd⟩⟩)⟩) (.inr ⟨by simp [startE], fun n1 acc ⟨a1, a2, a3, a4⟩ => ?_⟩)) fun n' ρ' ⟨hn', cat, c1, c4, hc, er⟩ => ?_
  · rw [rgD_len, show ((1 : Int) + (r : Int)).toNat = r + 1 by omega]
    exact ⟨by omega, by omega, fun n2 acc b1 b2 b3 => ⟨by omega, by omega, by omega, b3⟩⟩
  · obtain ⟨l, rfl, hl⟩ := isJbs a4
    rw [List.length_map] at a2 a3
    exact ⟨a1, l, a2, a3, hl, rfl⟩
  subst er
  refine x_consI (fun n' ρ' => n' ≤ n + 20 ∧ ∃ cat : List Jb, 1 ≤ cat.length ∧ cat.length ≤ 4 ∧ (∀ j ∈ cat, j.k < K ∧ 0 < j.t ∧ j.t ≤ 10 ^ 20 + 1001 ∧ 0 ≤ j.u ∧ j.u ≤ 10 ^ 20 + 1000) ∧ ρ' = [.raw p, .dat (.int (K : Nat)), .dat (.int 4), .own (cat.map Jb.enc), .no]) (x_if (et_cmp (ev_take (i := 0) H (hr.mono (by decide)) (by kernel_rfl) (by kernel_rfl) rfl (Ed.ev ed_int ⟨4, rfl, by decide, by decide, by omega, fun w hw => Ed.ev ed_int ⟨_, o_eq, fun h => ?_, fun h => x_nil ⟨by omega, cat, c1, c4, hc, rfl⟩⟩⟩)))) fun n'' ρ'' ⟨hn'', cat', c1', c4', hc', er'⟩ => ?_
  · refine x_one (x_put 3 (by kernel_rfl) rfl (ev_pcall (ok__law_draw_job H) (hr.mono (by decide)) (by kernel_rfl) (i := 0) (by kernel_rfl) rfl (EdA.ev (eda_cons (ed_nm 1 (by kernel_rfl) rfl) eda_nil) ⟨rfl, ⟨K, rfl, h1, h2⟩, by omega, fun d hd => ev_take (i := 0) H (hr.mono (by decide)) (by kernel_rfl) (by kernel_rfl) rfl (ev_peek (i := 3) rfl (Ed.ev (ed_len (xs := cat.map Jb.enc) (by kernel_rfl) (H.free 69) (ed_nm 3 (by kernel_rfl) rfl) (by exact rfl)) ⟨⟨_, rfl⟩, cat.length, by rw [List.length_map], c1, by omega, by omega, fun r hr' => ?_⟩))⟩)))
    obtain ⟨j, ej, hj⟩ := isJb_job hd
    subst ej
    refine ⟨(r : Int), r, rfl, ixN_nat (by rw [List.length_map]; omega), by omega, cat.set r j, by rw [List.length_set]; exact c1, by rw [List.length_set]; exact c4, fun x hx => ?_, by rw [map_set]; rfl⟩
    rcases List.mem_or_eq_of_mem_set hx with z | z
    · exact hc x z
    · rw [z]; exact hj
  subst er'
  refine x_consI (fun n' ρ' => n' ≤ n + 24 ∧ ∃ (cat : List Jb) (kk : Sl), 1 ≤ cat.length ∧ cat.length ≤ 4 ∧ (∀ j ∈ cat, jbOk K j) ∧ ρ' = [.raw p, .dat (.int (K : Nat)), .dat (.int 4), .own (cat.map Jb.enc), kk]) (x_if (et_cmp (ev_take (i := 0) H (hr.mono (by decide)) (by kernel_rfl) (by kernel_rfl) rfl (Ed.ev ed_int ⟨3, rfl, by decide, by decide, by omega, fun w hw => Ed.ev ed_int ⟨_, o_eq, fun h => ?_, fun h => x_nil ⟨by omega, cat', .no, c1', c4', fun j hj => ?_, rfl⟩⟩⟩)))) fun n3 ρ3 ⟨hn3, cat3, kk, c13, c43, hc3, er3⟩ => ?_
  · refine x_cons (x_set nd 4 (by kernel_rfl) (ev_take (i := 0) H (hr.mono (by decide)) (by kernel_rfl) (by kernel_rfl) rfl (ev_peek (i := 3) rfl (Ed.ev (ed_len (xs := cat'.map Jb.enc) (by kernel_rfl) (H.free 69) (ed_nm 3 (by kernel_rfl) rfl) (by exact rfl)) ⟨⟨_, rfl⟩, cat'.length, by rw [List.length_map], c1', by omega, by omega, fun k hk => ?_⟩))))
    have gk : cat'[k]? = some cat'[k] := List.getElem?_eq_getElem hk
    have hck := hc' _ (List.getElem_mem hk)
    revert gk hck
    generalize cat'[k] = y
    intro gk hck
    refine x_one (x_put 3 (by kernel_rfl) rfl (ev_tup (ea_cons (ev_peek (i := 3) rfl (Ed.ev (d := .int (y.k : Nat)) (ed_ix (ed_ix (ed_nm 3 (by kernel_rfl) rfl) (ed_nm 4 (by kernel_rfl) rfl) (ixl_nat (get_map gk))) ed_int (.tup rfl)) ⟨⟨_, rfl⟩, ea_cons (ev_peek (i := 3) rfl (Ed.ev (d := .int y.t) (ed_ix (ed_ix (ed_nm 3 (by kernel_rfl) rfl) (ed_nm 4 (by kernel_rfl) rfl) (ixl_nat (get_map gk))) ed_int (.tup rfl)) ⟨⟨_, rfl⟩, ea_cons (ev_op (ev_peek (i := 3) rfl (Ed.ev (d := .int y.u) (ed_ix (ed_ix (ed_nm 3 (by kernel_rfl) rfl) (ed_nm 4 (by kernel_rfl) rfl) (ixl_nat (get_map gk))) ed_int (.tup rfl)) ⟨⟨_, rfl⟩, ev_take (i := 0) H (hr.mono (by decide)) (by kernel_rfl) (by kernel_rfl) rfl (Ed.ev ed_int ⟨2, rfl, by decide, by decide, by omega, fun t ht => ⟨_, o_add, ea_nil ⟨?_, by simp⟩⟩⟩)⟩)))⟩))⟩)))))
    refine ev_take (i := 0) H (hr.mono (by decide)) (by kernel_rfl) (by kernel_rfl) rfl (ev_peek (i := 3) rfl (Ed.ev (ed_len (xs := cat'.map Jb.enc) (by kernel_rfl) (H.free 69) (ed_nm 3 (by kernel_rfl) rfl) (by exact rfl)) ⟨⟨_, rfl⟩, cat'.length, by rw [List.length_map], c1', by omega, by omega, fun r hr' => ?_⟩))
    refine ⟨(r : Int), r, rfl, ixN_nat (by rw [List.length_map]; omega), by omega, cat'.set r ⟨y.k, y.t, y.u + (t : Int)⟩, .dat (.int (k : Nat)), by rw [List.length_set]; exact c1', by rw [List.length_set]; exact c4', fun x hx => ?_, by rw [map_set]; rfl⟩
    rcases List.mem_or_eq_of_mem_set hx with z | z
    · obtain ⟨b1, b2, b3, b4, b5⟩ := hc' x z
      exact ⟨b1, b2, b3, b4, by omega⟩
    · obtain ⟨b1, b2, b3, b4, b5⟩ := hck
      rw [z]
      exact ⟨b1, b2, b3, by show 0 ≤ y.u + (t : Int); omega, by show y.u + (t : Int) ≤ 10 ^ 20 + 1002; omega⟩
  · obtain ⟨b1, b2, b3, b4, b5⟩ := hc' j hj
    exact ⟨b1, b2, b3, b4, by omega⟩
  subst er3
  exact x_freeze (i := 3) rfl (x_one (x_ret (Ed.ev (ed_tupleL (by kernel_rfl) (H.free 78) (ed_nm 3 (by kernel_rfl) rfl)) ⟨by omega, K, cat3, rfl, rfl, c13, c43, hc3⟩)))
end Kb
namespace Kb
open PySem PySem.Spec PyProof.Rows L2
section
variable {S : Sg} {g : Wd} {a b e : Expr} {rest : List Expr} {ρ : En} {n : Nat} {p pos : Pos} {K : Nat → Dat → Prop}
theorem ev_and {x : Bool} (h : Ed S g a ρ (.bl x)) (h2 : x = true → Ev S g (.BoolOp .And (b :: rest) pos) ρ n K) (h3 : x = false → K n (.bl false)) : Ev S g (.BoolOp .And (a :: b :: rest) pos) ρ n K := fun M Hb ad σ H E Q q =>
  ⟨tAndV (wE S a) (wE S (.BoolOp .And (b :: rest) pos)), fun X c => pe_and (wE_ok c) (wE_ok c), h n M Hb ad σ H E _ fun n1 v H1 d k1 j1 a1 r => by
    obtain ⟨rfl, rfl⟩ := r
    refine ⟨x, at_bl a1, ?_⟩
    cases x with
    | true => exact iteT (h2 rfl M Hb ad σ H1 (E.keep k1 j1) Q fun n2 w H2 y' k2 j2 a2 ky => q n2 w H2 y' (k1.trans k2) j2 a2 ky)
    | false => exact iteF (q _ _ H1 _ k1 j1 At.bl (h3 rfl))⟩
theorem ev_one1 {op : BoolOp} (h : Ev S g a ρ n K) : Ev S g (.BoolOp op [a] pos) ρ n K := fun M Hb ad σ H E Q q => ⟨wE S a, fun X c => pe_one (wE_ok c), h M Hb ad σ H E Q q⟩
theorem ev_intB (hg : glB S.sc "int" = true) (hm : S.mg "int" = none) (h : Ev S g e ρ n fun n1 d => ∃ b : Bool, d = .bl b ∧ K n1 (.int (if b then 1 else 0))) (he : ∀ env, starEach [e] env = (false, eval e env) :: starEach [] env := by intro _; rfl) : Ev S g (.Call (.Name "int" p) [e] [] pos) ρ n K :=
  ev_bty hg hm PyProof.Rows.boot_int (ea_cons (h.imp fun n1 d ⟨i, ed, k⟩ => ea_nil (by subst ed; exact c_intB k)) he) (by decide) he
end
def shF (c : Int) (ws : List Int) (i : Nat) : Int := (ws.take i ++ ws.drop (i + 1)).foldl (· * ·) c
inductive RSh : Ms → List (Int × Int) → Prop
  | w6 {st k : Nat} : 1 ≤ st → st ≤ 9 → 1 ≤ k → k ≤ 3 → RSh (.max (List.replicate k [(0 - (st : Int), 0)])) (List.replicate k (0 - (st : Int), 0))
  | w5 {st h k : Nat} : 1 ≤ st → st ≤ 8 → h < k → k ≤ 3 → RSh (.max ((List.range k).map fun i => [((st : Int) + (if decide (i = h) then 1 else 0), 0)])) ((List.range k).map fun i => ((if decide (i ≠ h) then 1 else 0 : Int), 0))
  | w01 {g f : Int} {ws cs : List Int} : (g = 1 ∨ g = -1) → 1 ≤ f → f ≤ 3 → ws.length = cs.length → (∀ w ∈ ws, 1 ≤ w ∧ w ≤ 9) → (∀ c ∈ cs, -9 ≤ c ∧ c ≤ 9) → 1 ≤ ws.length → ws.length ≤ 3 → RSh (.sum ((ws.zip cs).map fun p => [(g * p.1, p.2)])) ((List.range ws.length).map fun i => (shF (f * g) ws i, 0))
  | w4s {cs : List Int} {rl : List (Int × Int)} : (∀ c ∈ cs, -9 ≤ c ∧ c ≤ 9) → 1 ≤ cs.length → cs.length ≤ 3 → rl.length = cs.length → (∀ q ∈ rl, -9 ≤ q.1 ∧ q.1 ≤ 9 ∧ -9 ≤ q.2 ∧ q.2 ≤ 9) → RSh (.sum (cs.map fun c => [(0, c)])) rl
  | w4m {cs : List Int} {rl : List (Int × Int)} : (∀ c ∈ cs, -9 ≤ c ∧ c ≤ 9) → 1 ≤ cs.length → cs.length ≤ 3 → rl.length = cs.length → (∀ q ∈ rl, -9 ≤ q.1 ∧ q.1 ≤ 9 ∧ -9 ≤ q.2 ∧ q.2 ≤ 9) → RSh (.max (cs.map fun c => [(0, c)])) rl
  | w23 {fl : List (Int × Int)} {st : Nat} {sl : List Int} : (fl = [] ∨ ∃ z : Int, fl = [(0, z)] ∧ (z = 0 ∨ z = 1)) → 1 ≤ st → st ≤ 9 → (∀ c ∈ sl, -9 ≤ c ∧ c ≤ 9) → 1 ≤ sl.length → sl.length ≤ 3 → RSh (.max (sl.map fun s => fl ++ [((st : Int), s)])) (sl.map fun s => (0, 0 - s))
theorem ints_of {P : Int → Prop} {acc : List Dat} (h : ∀ d ∈ acc, ∃ v : Int, d = .int v ∧ P v) : ∃ l : List Int, acc = l.map Dat.int ∧ ∀ v ∈ l, P v := by
  induction acc with
  | nil => exact ⟨[], rfl, fun q z => by cases z⟩
  | cons d acc ih =>
    obtain ⟨l, e, hl⟩ := ih fun d' z => h d' (List.mem_cons_of_mem _ z)
    obtain ⟨q, eq, hq⟩ := h d List.mem_cons_self
    refine ⟨q :: l, by rw [e, eq]; rfl, fun q' z => ?_⟩
    rcases List.mem_cons.mp z with z | z
    · rw [z]; exact hq
    · exact hl q' z
theorem encs_of {acc : List Dat} (h : ∀ d ∈ acc, ∃ v : Int, d = eE [(0, v)] ∧ (-9 ≤ v ∧ v ≤ 9)) : ∃ l : List Int, acc = (l.map fun c => eE [(0, c)]) ∧ ∀ v ∈ l, -9 ≤ v ∧ v ≤ 9 := by
  induction acc with
  | nil => exact ⟨[], rfl, fun q z => by cases z⟩
  | cons d acc ih =>
    obtain ⟨l, e, hl⟩ := ih fun d' z => h d' (List.mem_cons_of_mem _ z)
    obtain ⟨q, eq, hq⟩ := h d List.mem_cons_self
    refine ⟨q :: l, by rw [e, eq]; rfl, fun q' z => ?_⟩
    rcases List.mem_cons.mp z with z | z
    · rw [z]; exact hq
    · exact hl q' z
theorem foldl_bd {L : List Int} (h : ∀ w ∈ L, Bd 4 w) {c : Int} (hc : Bd 2 c) : ∀ j, Bd (2 + 4 * j) ((L.take j).foldl (· * ·) c)
  | 0 => hc
  | j + 1 => by
    have ih := foldl_bd h hc j
    rw [List.take_add_one, List.foldl_append]
    cases e : L[j]? with
    | none => exact ih.mono (by omega)
    | some w => exact (bd_mul ih (h w (List.mem_of_getElem? e))).mono (by omega)
theorem rep_flat {α : Type} (x : α) (k : Nat) : (List.replicate k [x]).flatten = List.replicate k x := by
  induction k with
  | zero => rfl
  | succ k ih => rw [List.replicate_succ, List.flatten_cons, ih]; rfl
abbrev N__law_draw_right : List Str := ["_law_pen", "_law_kinds", "_law_way", "_law_many", "_law_steep", "_law_heavy", "_law_entries", "_law_sign_here", "_law_factor", "_law_weights", "_law_keys", "_law_k", "_law_weight", "_law_share", "_law_other", "_law_floor", "_law_slope"]
theorem sc__law_draw_right : FnScope N__law_draw_right ["_law_pen", "_law_kinds"] (defScope s__law_draw_right) := ⟨rfl, rfl, rfl, by decide +kernel, rfl, by decide +kernel, by decide +kernel⟩
def Pre_right (ds : List Dat) : Prop := ds = [.int 3]
def R_right (ds : List Dat) (d : Dat) : Prop := ∃ (m : Ms) (rl : List (Int × Int)), d = .tup [m.enc, .tup (rl.map pI)] ∧ RSh m rl
theorem ok__law_draw_right {G : Gc} (H : Head G) : HasF G "_law_draw_right" 6 2 (PenSp 2 30 Pre_right R_right) := by
  refine H.pen (st := s__law_draw_right) (ps := ["_law_pen", "_law_kinds"]) 59 51 (by kernel_rfl) (by kernel_rfl) sc__law_draw_right (fun _ _ _ _ _ _ us hl => match us, hl with | [_, _], _ => rfl) fun A hr p c n ds hl hP hn => ?_
  have nd := sc__law_draw_right.nd
  have hP : ds = [.int 3] := hP
  subst hP
  refine x_cons (x_par2 nd 2 3 ⟨rfl, rfl⟩ ⟨rfl, rfl⟩ (by decide) (by simp [startE]) (by kernel_rfl) (era_dat (ev_take (i := 0) H (hr.mono (by decide)) (by kernel_rfl) (by kernel_rfl) rfl (Ed.ev ed_int ⟨7, rfl, by decide, by decide, by omega, fun w hw => era_dat (ev_op (Ed.ev ed_int (ev_take (i := 0) H (hr.mono (by decide)) (by kernel_rfl) (by kernel_rfl) rfl (Ed.ev ed_int ⟨3, rfl, by decide, by decide, by omega, fun r hr3 => ⟨.int ((r + 1 : Nat) : Int), by rw [show ((r + 1 : Nat) : Int) = 1 + (r : Int) by omega]; exact o_add, era_nil ⟨rfl, ?_⟩⟩⟩))))⟩))))
  obtain ⟨k, hk⟩ : ∃ k, k = r + 1 := ⟨_, rfl⟩
  rw [← hk]
  have hk1 : 1 ≤ k := by omega
  have hk3 : k ≤ 3 := by omega
  clear hk
  have hrg : rgD 0 ((k : Nat) : Int).toNat = (List.range k).map nI := by rw [Int.toNat_natCast]; exact rgD_range k
  -- way 6
  refine x_cons (xd_if (b := decide ((w : Int) = 6)) (etd_cmp (ed_nm 2 (by kernel_rfl) rfl) ed_int o_eq) (fun h => ?_) fun h6 => x_nil ?_)
  · refine x_cons (x_set nd 4 (by kernel_rfl) (ev_op (Ed.ev ed_int (ev_take (i := 0) H (hr.mono (by decide)) (by kernel_rfl) (by kernel_rfl) rfl (Ed.ev ed_int ⟨9, rfl, by decide, by decide, by omega, fun s hs => ⟨.int ((s + 1 : Nat) : Int), by rw [show ((s + 1 : Nat) : Int) = 1 + (s : Int) by omega]; exact o_add, ?_⟩⟩)))))
    refine x_one (x_ret (Ed.ev (ed_tup (eda_cons (ed_tup (eda_cons ed_str (eda_cons (ed_op (ed_tup (eda_cons (ed_tup (eda_cons (ed_tup (eda_cons (ed_op ed_int (ed_nm 4 (by kernel_rfl) rfl) o_sub) (eda_cons ed_int eda_nil)) (by simp)) eda_nil) (by simp)) eda_nil) (by simp)) (ed_nm 3 (by kernel_rfl) rfl) (o_repTn (by simp) (by omega) (by omega) (by simp))) eda_nil)) (by simp)) (eda_cons (ed_op (ed_tup (eda_cons (ed_tup (eda_cons (ed_op ed_int (ed_nm 4 (by kernel_rfl) rfl) o_sub) (eda_cons ed_int eda_nil)) (by simp)) eda_nil) (by simp)) (ed_nm 3 (by kernel_rfl) rfl) (o_repTn (by simp) (by omega) (by omega) (by simp))) eda_nil)) (by simp)) ⟨by omega, _, _, ?_, RSh.w6 (st := s + 1) (k := k) (by omega) (by omega) hk1 hk3⟩))
    rw [Int.toNat_natCast, rep_flat, rep_flat]
    show _ = Dat.tup [.tup [.str "max", .tup ((List.replicate k [(0 - ((s + 1 : Nat) : Int), 0)]).map eE)], _]
    rw [List.map_replicate, List.map_replicate]
    rfl
  -- way 5
  refine x_cons (xd_if (b := decide ((w : Int) = 5)) (etd_cmp (ed_nm 2 (by kernel_rfl) rfl) ed_int o_eq) (fun h => ?_) fun h5 => x_nil ?_)
  · refine x_cons (x_pack nd [5, 4] (.cons (by kernel_rfl) (.cons (by kernel_rfl) .nil)) (by simp [setR, startE]) (by decide) (era_dat (ev_take (i := 0) H (hr.mono (by decide)) (by kernel_rfl) (by kernel_rfl) rfl (Ed.ev (ed_nm 3 (by kernel_rfl) rfl) ⟨k, rfl, hk1, by omega, by omega, fun hv hh => era_dat (ev_op (Ed.ev ed_int (ev_take (i := 0) H (hr.mono (by decide)) (by kernel_rfl) (by kernel_rfl) rfl (Ed.ev ed_int ⟨8, rfl, by decide, by decide, by omega, fun s hs => ⟨.int ((s + 1 : Nat) : Int), by rw [show ((s + 1 : Nat) : Int) = 1 + (s : Int) by omega]; exact o_add, era_nil ⟨rfl, ?_⟩⟩⟩))))⟩))) (by kernel_rfl))
    refine x_cons (x_setLcM nd 6 (by kernel_rfl) [("_law_k", 11)] (by kernel_rfl) (ys := List.range k) (enc := nI) (f := fun i => eE [(((s + 1 : Nat) : Int) + (if decide (i = hv) then 1 else 0), 0)]) (EdI.is (edi_rng1 (by kernel_rfl) (H.free 73) (ed_nm 3 (by kernel_rfl) rfl) (by omega) (by omega)) hrg) (by rw [List.length_range]; omega) (fun y hy => ⟨_, _, (by simp), (gd_nm nd 11 (by kernel_rfl)), (ed_tup (eda_cons (ed_tup (eda_cons (ed_op (ed_nm 4 (by kernel_rfl) rfl) (ed_intB (by kernel_rfl) (H.free 67) (ed_cmp (ed_nm 11 (by kernel_rfl) rfl) (ed_nm 5 (by kernel_rfl) rfl) o_eqN)) o_add) (eda_cons ed_int eda_nil)) (by simp)) eda_nil) (by simp))⟩) (.inl ?_))
    refine x_one (x_ret (Ed.ev (ed_tup (eda_cons (ed_tup (eda_cons ed_str (eda_cons (ed_tupleL (by kernel_rfl) (H.free 78) (ed_nm 6 (by kernel_rfl) rfl)) eda_nil)) (by simp)) (eda_cons (ed_tupleL (by kernel_rfl) (H.free 78) (EdN.ed (edn_lcm nd [("_law_k", 11)] (by kernel_rfl) (ys := List.range k) (enc := nI) (f := fun i => pI ((if decide (i ≠ hv) then 1 else 0 : Int), 0)) (EdI.is (edi_rng1 (by kernel_rfl) (H.free 73) (ed_nm 3 (by kernel_rfl) rfl) (by omega) (by omega)) hrg) (by rw [List.length_range]; omega) (fun y hy => ⟨_, _, (by simp), (gd_nm nd 11 (by kernel_rfl)), (ed_tup (eda_cons (ed_intB (by kernel_rfl) (H.free 67) (ed_cmp (ed_nm 11 (by kernel_rfl) rfl) (ed_nm 5 (by kernel_rfl) rfl) o_neN)) (eda_cons ed_int eda_nil)) (by simp))⟩)))) eda_nil)) (by simp)) ⟨by omega, _, _, ?_, RSh.w5 (st := s + 1) (h := hv) (k := k) (by omega) (by omega) hh hk3⟩))
    show _ = Dat.tup [.tup [.str "max", .tup (List.map eE _)], _]
    rw [List.map_map, List.map_map]
    rfl
  -- way 3
  refine x_consI (fun n' ρ' => n' = n + 1 + 1 ∧ ρ' = [.raw p, .dat (.int 3), .dat (.int (w : Nat)), .dat (.int (k : Nat)), .no, .no, .no, .no, .no, .no, .no, .no, .no, .no, .no, .no, .no]) (xd_if (b := decide ((w : Int) = 3)) (etd_cmp (ed_nm 2 (by kernel_rfl) rfl) ed_int o_eq) (fun h => x_one (xd_set nd 3 (by kernel_rfl) (Ed.is (ed_blt (by kernel_rfl) (H.free 72) PyProof.Rows.boot_min (eda_cons (ed_nm 3 (by kernel_rfl) rfl) (eda_cons (ed_nm 1 (by kernel_rfl) rfl) eda_nil)) (fun K k => c_min2 k)) (show _ = Dat.int (k : Nat) by rw [if_neg (by omega)])) ⟨rfl, rfl⟩)) fun h => x_nil ⟨rfl, rfl⟩) fun n' ρ' ⟨en, er⟩ => ?_
  subst en er
  -- ways 0, 1
  refine x_cons (xd_if (b := decide ((w : Int) < 2)) (etd_cmp (ed_nm 2 (by kernel_rfl) rfl) ed_int o_lt) (fun h => ?_) fun h2 => x_nil ?_)
  · refine x_consI (fun n' ρ' => n' ≤ n + 4 ∧ ∃ (g : Int) (f : Nat), (g = 1 ∨ g = -1) ∧ 1 ≤ f ∧ f ≤ 3 ∧ ρ' = [.raw p, .dat (.int 3), .dat (.int (w : Nat)), .dat (.int (k : Nat)), .no, .no, .no, .dat (.int g), .dat (.int (f : Nat)), .no, .no, .no, .no, .no, .no, .no, .no]) (x_par2 nd 7 8 ⟨rfl, rfl⟩ ⟨rfl, rfl⟩ (by decide) (by simp) (by kernel_rfl) (era_dat ?_)) fun n' ρ' ⟨hn', g, f, hg, f1, f3, er⟩ => ?_
    refine Ev.imp (K := fun n1 d => n1 ≤ n + 3 ∧ ∃ g : Int, d = .int g ∧ (g = 1 ∨ g = -1)) ?_ fun n1 d ⟨hn1, g, ed, hg⟩ => era_dat (ev_op (Ed.ev ed_int (ev_take (i := 0) H (hr.mono (by decide)) (by kernel_rfl) (by kernel_rfl) rfl (Ed.ev ed_int ⟨3, rfl, by decide, by decide, by omega, fun f hf => ⟨.int ((f + 1 : Nat) : Int), by rw [show ((f + 1 : Nat) : Int) = 1 + (f : Int) by omega]; exact o_add, era_nil ⟨rfl, by omega, g, f + 1, hg, by omega, by omega, by subst ed; rfl⟩⟩⟩))))
    refine ev_op (Ed.ev ed_int (ev_op (Ed.ev ed_int (ev_intB (by kernel_rfl) (H.free 67) ?_))))
    refine ev_and (ed_cmp (ed_nm 2 (by kernel_rfl) rfl) ed_int o_eq) (fun hb => ev_one1 (ev_cmp ?_)) (fun hb => ⟨_, rfl, ?_⟩)
    · refine ev_take (i := 0) H (hr.mono (by decide)) (by kernel_rfl) (by kernel_rfl) rfl (Ed.ev ed_int ⟨2, rfl, by decide, by decide, by omega, fun t ht => Ed.ev ed_int ⟨_, o_eq, _, rfl, ?_⟩⟩)
      by_cases ht1 : (t : Int) = 1
      · rw [decide_eq_true ht1]
        exact ⟨_, o_mul (by show CMulW 2 1; exact cm (j := 2) (k := 1) (by decide) (by decide)), _, o_sub, by omega, -1, rfl, .inr rfl⟩
      · rw [decide_eq_false ht1]
        exact ⟨_, o_mul (by show CMulW 2 0; exact cm (j := 2) (k := 1) (by decide) (by decide)), _, o_sub, by omega, 1, rfl, .inl rfl⟩
    · exact ⟨_, o_mul (by show CMulW 2 0; exact cm (j := 2) (k := 1) (by decide) (by decide)), _, o_sub, by omega, 1, rfl, .inl rfl⟩
    subst er
    refine x_consI (fun n2 ρ' => n2 ≤ n' + 3 ∧ ∃ ws : List Int, ws.length = k ∧ (∀ w ∈ ws, 1 ≤ w ∧ w ≤ 9) ∧ ρ' = [.raw p, .dat (.int 3), .dat (.int (w : Nat)), .dat (.int (k : Nat)), .no, .no, .no, .dat (.int g), .dat (.int (f : Nat)), .dat (lI ws), .no, .no, .no, .no, .no, .no, .no]) (x_setLc nd 9 (by kernel_rfl) [("_law_k", 11)] (by kernel_rfl) (lc_drawn (cst := 1) (P := fun d => ∃ v : Int, d = .int v ∧ 1 ≤ v ∧ v ≤ 9) (K := fun n2 acc => n2 ≤ n' + 3 ∧ acc.length = k ∧ ∀ d ∈ acc, ∃ v : Int, d = .int v ∧ 1 ≤ v ∧ v ≤ 9) [("_law_k", 11)] (EdI.ev (edi_rng1 (by kernel_rfl) (H.free 73) (ed_nm 3 (by kernel_rfl) rfl) (by omega) (by omega)) ?_) fun x n2 hn2 => ⟨_, _, (by simp), (gd_nm nd 11 (by kernel_rfl)), ev_op (Ed.ev ed_int (ev_take (i := 0) H (hr.mono (by decide)) (by kernel_rfl) (by kernel_rfl) rfl (Ed.ev ed_int ⟨9, rfl, by decide, by decide, by omega, fun t ht => ⟨_, o_add, by omega, _, rfl, by omega, by omega⟩⟩)))⟩) (.inl fun n1 acc ⟨a1, a2, a3⟩ => ?_)) fun n2 ρ2 ⟨hn2, ws, hwl, hws, er⟩ => ?_
    · rw [rgD_len, Int.toNat_natCast]
      exact ⟨by omega, by omega, fun n2 acc b1 b2 b3 => ⟨by omega, b2, b3⟩⟩
    · obtain ⟨l, rfl, hl⟩ := ints_of a3
      rw [List.length_map] at a2
      exact ⟨a1, l, a2, hl, rfl⟩
    subst er
    refine x_cons (x_par2 nd 6 10 ⟨rfl, rfl⟩ ⟨rfl, rfl⟩ (by decide) (by simp) (by kernel_rfl) (era_new (EdN.ev (edn_lst eda_nil) (era_new (EdN.ev (edn_lst eda_nil) (era_nil ⟨rfl, ?_⟩))))))
    have hgf : Bd 2 ((f : Int) * g) := by
      have : f = 1 ∨ f = 2 ∨ f = 3 := by omega
      rcases this with rfl | rfl | rfl <;> rcases hg with rfl | rfl <;> decide
    have bws : ∀ w ∈ ws, Bd 4 w := fun w hw => by have := hws w hw; show w.natAbs < 2 ^ 4; omega
    have bg : Bd 1 g := by rcases hg with rfl | rfl <;> decide
    refine x_cons (x_for (EdI.ev (edi_enum (by kernel_rfl) (H.free 66) (ed_nm 9 (by kernel_rfl) rfl)) ⟨fun i n3 ρ3 => n3 ≤ n2 + i ∧ ∃ (cs : List Int) (s1 s2 s3 s4 : Sl), cs.length = i ∧ (∀ c ∈ cs, -9 ≤ c ∧ c ≤ 9) ∧ ρ3 = [.raw p, .dat (.int 3), .dat (.int (w : Nat)), .dat (.int (k : Nat)), .no, .no, .own (((ws.take i).zip cs).map fun p => eE [(g * p.1, p.2)]), .dat (.int g), .dat (.int (f : Nat)), .dat (lI ws), .own ((List.range i).map fun i => pI (shF ((f : Int) * g) ws i, 0)), s1, s2, s3, s4, .no, .no], ⟨by omega, [], .no, .no, .no, .no, rfl, fun c z => absurd z List.not_mem_nil, rfl⟩, fun i z n3 ρ3 hz ⟨e1, cs, s1, s2, s3, s4, e2, e3, e4⟩ => ?_, fun n3 ρ3 ⟨e1, cs, s1, s2, s3, s4, e2, e3, e4⟩ => ?_⟩))
    · subst e4
      rw [zipIdx_map', List.map_map, List.getElem?_map, List.getElem?_zipIdx, Option.map_map] at hz
      cases hq : ws[i]? with
      | none => rw [hq] at hz; cases hz
      | some v =>
        rw [hq] at hz
        have ez : z = .tup [.int (i : Nat), .int v] := by
          simp at hz
          exact hz.symm
        subst ez
        have hiw : i < ws.length := (List.getElem?_eq_some_iff.mp hq).1
        have hv := hws v (List.mem_of_getElem? hq)
        have bv := bws v (List.mem_of_getElem? hq)
        refine ⟨_, _, (gd_tup (gds_cons (gd_nm nd 11 (by kernel_rfl)) (gds_cons (gd_nm nd 12 (by kernel_rfl)) gds_nil))), x_cons (x_app 6 (by kernel_rfl) rfl (by rw [List.length_map, List.length_zip]; omega) (ev_tup (ea_cons (ev_tup (ea_cons (Ed.ev (ed_op (ed_nm 7 (by kernel_rfl) rfl) (ed_nm 12 (by kernel_rfl) rfl) (o_mul (cm bg bv))) (ea_cons (ev_op (ev_take (i := 0) H (hr.mono (by decide)) (by kernel_rfl) (by kernel_rfl) rfl (Ed.ev ed_int ⟨19, rfl, by decide, by decide, by omega, fun t ht => Ed.ev ed_int ⟨_, o_sub, ea_nil ⟨ea_nil ⟨?_, by simp⟩, by simp⟩⟩⟩))))))))))⟩
        refine x_cons (xd_set nd 13 (by kernel_rfl) (ed_op (ed_nm 8 (by kernel_rfl) rfl) (ed_nm 7 (by kernel_rfl) rfl) (o_mul (cm (j := 2) (k := 1) (by show (f : Int).natAbs < 2 ^ 2; omega) bg))) ?_)
        refine x_cons (x_for (EdI.ev (edi_lst (EdN.ed (EdN.is (edn_op (EdN.ed (edn_slice (ed_nm 9 (by kernel_rfl) rfl) .none (.some (ed_nm 11 (by kernel_rfl) rfl)))) (EdN.ed (edn_slice (ed_nm 9 (by kernel_rfl) rfl) (.some (ed_op (ed_nm 11 (by kernel_rfl) rfl) ed_int o_add)) .none)) (on_cat ?_)) (show _ = (ws.take i ++ ws.drop (i + 1)).map Dat.int from ?_)))) ⟨fun j n4 ρ4 => n4 = n3 + 1 ∧ ∃ s4 : Sl, ρ4 = [.raw p, .dat (.int 3), .dat (.int (w : Nat)), .dat (.int (k : Nat)), .no, .no, .own ((((ws.take i).zip cs).map fun p => eE [(g * p.1, p.2)]) ++ [eE [(g * v, (t : Int) - 9)]]), .dat (.int g), .dat (.int (f : Nat)), .dat (lI ws), .own ((List.range i).map fun i => pI (shF ((f : Int) * g) ws i, 0)), .dat (.int (i : Nat)), .dat (.int v), .dat (.int (((ws.take i ++ ws.drop (i + 1)).take j).foldl (· * ·) ((f : Int) * g))), s4, .no, .no], ⟨rfl, s4, rfl⟩, fun j z n4 ρ4 hz ⟨b1, s5, b2⟩ => ?_, fun n4 ρ4 ⟨b1, s5, b2⟩ => ?_⟩))
        · rw [cutD_to, cutD_from, List.length_take, List.length_drop, List.length_map]
          omega
        · rw [cutD_to, cutD_from, List.map_append, List.map_take, List.map_drop]
        · subst b1 b2
          rw [List.getElem?_map] at hz
          cases hq2 : (ws.take i ++ ws.drop (i + 1))[j]? with
          | none => rw [hq2] at hz; cases hz
          | some o =>
            rw [hq2] at hz
            cases hz
            have ho : Bd 4 o := by
              have := List.mem_of_getElem? hq2
              rcases List.mem_append.mp this with z | z
              · exact bws o (List.mem_of_mem_take z)
              · exact bws o (List.mem_of_mem_drop z)
            have hall : ∀ w ∈ ws.take i ++ ws.drop (i + 1), Bd 4 w := fun o this => by
              rcases List.mem_append.mp this with z | z
              · exact bws o (List.mem_of_mem_take z)
              · exact bws o (List.mem_of_mem_drop z)
            have hjl : j < 10 := by
              have := (List.getElem?_eq_some_iff.mp hq2).1
              rw [List.length_append, List.length_take, List.length_drop] at this
              omega
            have hbs : Bd 42 (((ws.take i ++ ws.drop (i + 1)).take j).foldl (· * ·) ((f : Int) * g)) := (foldl_bd hall hgf j).mono (by omega)
            refine ⟨_, _, gd_nm nd 14 (by kernel_rfl), x_one (xd_set nd 13 (by kernel_rfl) (ed_op (ed_nm 13 (by kernel_rfl) rfl) (ed_nm 14 (by kernel_rfl) rfl) (o_mul (cm hbs ho))) ⟨rfl, .dat (.int o), ?_⟩)⟩
            rw [List.take_add_one, hq2]
            simp
        · subst b1 b2
          refine x_one (x_app 10 (by kernel_rfl) rfl (by rw [List.length_map, List.length_range]; omega) (Ed.ev (ed_tup (eda_cons (ed_nm 13 (by kernel_rfl) rfl) (eda_cons ed_int eda_nil)) (by simp)) ?_))
          refine ⟨by omega, cs ++ [(t : Int) - 9], .dat (.int (i : Nat)), .dat (.int v), .dat (.int (shF ((f : Int) * g) ws i)), s5, by rw [List.length_append, e2]; rfl, fun c hc => ?_, ?_⟩
          · rcases List.mem_append.mp hc with z | z
            · exact e3 c z
            · rw [List.mem_singleton.mp z]; omega
          · have ez : (ws.take (i + 1)).zip (cs ++ [(t : Int) - 9]) = (ws.take i).zip cs ++ [(v, (t : Int) - 9)] := by
              rw [List.take_add_one, hq]
              show (ws.take i ++ [v]).zip _ = _
              rw [List.zip_append (by rw [List.length_take]; omega)]
              rfl
            rw [ez, List.range_succ, List.length_map, List.take_length, List.map_append, List.map_append]
            rfl
    · subst e4
      rw [List.length_map, List.length_zipIdx, List.length_map] at e1 e2
      refine x_freeze (i := 6) rfl (x_freeze (i := 10) rfl (x_one (x_ret (Ed.ev (ed_tup (eda_cons (ed_tup (eda_cons ed_str (eda_cons (ed_tupleL (by kernel_rfl) (H.free 78) (ed_nm 6 (by kernel_rfl) rfl)) eda_nil)) (by simp)) (eda_cons (ed_tupleL (by kernel_rfl) (H.free 78) (ed_nm 10 (by kernel_rfl) rfl)) eda_nil)) (by simp)) ⟨by omega, _, _, ?_, RSh.w01 (g := g) (f := f) (ws := ws) (cs := cs) hg (by omega) (by omega) (by omega) hws e3 (by omega) (by omega)⟩))))
      rw [List.length_map, List.length_zipIdx, List.length_map, List.take_length]
      show _ = Dat.tup [.tup [.str "sum", .tup (List.map eE _)], _]
      rw [List.map_map, List.map_map]
      rfl
  -- way 4
  have hw2 : 2 ≤ w := by have := of_decide_eq_false h2; omega
  refine x_cons (xd_if (b := decide ((w : Int) = 4)) (etd_cmp (ed_nm 2 (by kernel_rfl) rfl) ed_int o_eq) (fun h => ?_) fun h4 => x_nil ?_)
  · refine x_consI (fun n2 ρ' => n2 ≤ n + 5 ∧ ∃ cs : List Int, cs.length = k ∧ (∀ c ∈ cs, -9 ≤ c ∧ c ≤ 9) ∧ ρ' = [.raw p, .dat (.int 3), .dat (.int (w : Nat)), .dat (.int (k : Nat)), .no, .no, .dat (.lst (cs.map fun c => eE [(0, c)])), .no, .no, .no, .no, .no, .no, .no, .no, .no, .no]) (x_setLc nd 6 (by kernel_rfl) [("_law_k", 11)] (by kernel_rfl) (lc_drawn (cst := 1) (P := fun d => ∃ v : Int, d = eE [(0, v)] ∧ (-9 ≤ v ∧ v ≤ 9)) (K := fun n2 acc => n2 ≤ n + 5 ∧ acc.length = k ∧ ∀ d ∈ acc, ∃ v : Int, d = eE [(0, v)] ∧ (-9 ≤ v ∧ v ≤ 9)) [("_law_k", 11)] (EdI.ev (edi_rng1 (by kernel_rfl) (H.free 73) (ed_nm 3 (by kernel_rfl) rfl) (by omega) (by omega)) ?_) fun x n2 hn2 => ⟨_, _, (by simp), (gd_nm nd 11 (by kernel_rfl)), ev_tup (ea_cons (ev_tup (ea_cons (Ed.ev ed_int (ea_cons (ev_op (ev_take (i := 0) H (hr.mono (by decide)) (by kernel_rfl) (by kernel_rfl) rfl (Ed.ev ed_int ⟨19, rfl, by decide, by decide, by omega, fun t ht => Ed.ev ed_int ⟨_, o_sub, ea_nil ⟨ea_nil ⟨⟨by omega, (t : Int) - 9, rfl, by omega, by omega⟩, by simp⟩, by simp⟩⟩⟩))))))))⟩) (.inl fun n1 acc ⟨a1, a2, a3⟩ => ?_)) fun n2 ρ2 ⟨hn2, cs, hcl, hcs, er⟩ => ?_
    · rw [rgD_len, Int.toNat_natCast]
      exact ⟨by omega, by omega, fun n2 acc b1 b2 b3 => ⟨by omega, b2, b3⟩⟩
    · obtain ⟨l, rfl, hl⟩ := encs_of a3
      rw [List.length_map] at a2
      exact ⟨a1, l, a2, hl, rfl⟩
    subst er
    refine x_one (x_ret (ev_tup (ea_cons (ev_tup (ea_cons (ev_one (i := 0) H (hr.mono (by decide)) (by kernel_rfl) (by kernel_rfl) rfl (Ed.ev (EdN.ed (edn_lst (eda_cons ed_str (eda_cons ed_str eda_nil)))) ⟨_, rfl, by simp, by simp, by omega, fun d hd => ea_cons (Ed.ev (ed_tupleL (by kernel_rfl) (H.free 78) (ed_nm 6 (by kernel_rfl) rfl)) (ea_nil ⟨ea_cons (ev_pcall (ok__law_draw_rule H) (hr.mono (by decide)) (by kernel_rfl) (i := 0) (by kernel_rfl) rfl (EdA.ev (eda_cons (ed_nm 3 (by kernel_rfl) rfl) eda_nil) ⟨rfl, ⟨k, rfl, hk1, hk3⟩, by omega, fun d2 ⟨k2, l, e1, e2, e3, e4⟩ => ea_nil ⟨⟨by omega, ?_⟩, by simp⟩⟩)), by simp⟩))⟩)))))))
    have ek : k = k2 := by
      have := (List.cons.inj e1).1
      injection this with z
      omega
    subst ek e2
    simp at hd
    rcases hd with rfl | rfl
    · refine ⟨_, l, ?_, RSh.w4s hcs (by omega) (by omega) (by omega) e4⟩
      show _ = Dat.tup [.tup [.str "sum", .tup (List.map eE _)], _]
      rw [List.map_map]
      rfl
    · refine ⟨_, l, ?_, RSh.w4m hcs (by omega) (by omega) (by omega) e4⟩
      show _ = Dat.tup [.tup [.str "max", .tup (List.map eE _)], _]
      rw [List.map_map]
      rfl
  -- ways 2, 3
  have hw23 : w = 2 ∨ w = 3 := by
    have a1 := of_decide_eq_false h4
    have a2 := of_decide_eq_false h5
    have a3 := of_decide_eq_false h6
    omega
  refine x_cons (x_pack nd [4, 6, 10] (.cons (by kernel_rfl) (.cons (by kernel_rfl) (.cons (by kernel_rfl) .nil))) (by simp) (by decide) (era_dat (ev_op (Ed.ev ed_int (ev_take (i := 0) H (hr.mono (by decide)) (by kernel_rfl) (by kernel_rfl) rfl (Ed.ev ed_int ⟨9, rfl, by decide, by decide, by omega, fun s hs => ⟨.int ((s + 1 : Nat) : Int), by rw [show ((s + 1 : Nat) : Int) = 1 + (s : Int) by omega]; exact o_add, era_new (EdN.ev (edn_lst eda_nil) (era_new (EdN.ev (edn_lst eda_nil) (era_nil ⟨rfl, ?_⟩))))⟩⟩))))) (by kernel_rfl))
  refine x_cons (x_set nd 15 (by kernel_rfl) (ev_ix (EvN.ev (evn_lst (ea_cons (Ed.ev (EdN.ed (edn_lst eda_nil)) (ea_cons (EvN.ev (evn_lst (ea_cons (ev_tup (ea_cons (Ed.ev ed_int (ea_cons (ev_one (i := 0) H (hr.mono (by decide)) (by kernel_rfl) (by kernel_rfl) rfl (Ed.ev (EdN.ed (edn_lst (eda_cons ed_int (eda_cons ed_int (eda_cons ed_int eda_nil))))) ⟨_, rfl, by simp, by simp, by omega, fun d hd => ea_nil ⟨ea_nil ⟨ea_nil ⟨Ed.ev (ed_op (ed_nm 2 (by kernel_rfl) rfl) ed_int o_sub) ?_, by simp⟩, by simp⟩, by simp⟩⟩))))))))))))))))
  have hz : ∃ z : Int, d = .int z ∧ (z = 0 ∨ z = 1) := by
    simp at hd
    rcases hd with rfl | rfl
    · exact ⟨0, rfl, .inl rfl⟩
    · exact ⟨1, rfl, .inr rfl⟩
  obtain ⟨z, rfl, hz⟩ := hz
  obtain ⟨fl, hfl, hix⟩ : ∃ fl : List (Int × Int), (fl = [] ∨ ∃ z : Int, fl = [(0, z)] ∧ (z = 0 ∨ z = 1)) ∧ Ix (.lst [.lst [], .lst [.tup [.int 0, .int z]]]) ((w : Int) - 2) (.lst (fl.map pI)) := by
    rcases hw23 with rfl | rfl
    · exact ⟨[], .inl rfl, .lst rfl⟩
    · exact ⟨[(0, z)], .inr ⟨z, rfl, hz⟩, .lst rfl⟩
  have hfll : fl.length ≤ 1 := by
    rcases hfl with rfl | ⟨z, rfl, _⟩
    · simp
    · simp
  refine ⟨_, _, rfl, hix, ?_⟩
  refine x_cons (x_for (EdI.ev (edi_rng1 (by kernel_rfl) (H.free 73) (ed_nm 3 (by kernel_rfl) rfl) (by omega) (by omega)) ⟨fun i n3 ρ3 => n3 ≤ n + 4 + i ∧ ∃ (sl : List Int) (s1 s2 : Sl), sl.length = i ∧ (∀ c ∈ sl, -9 ≤ c ∧ c ≤ 9) ∧ ρ3 = [.raw p, .dat (.int 3), .dat (.int (w : Nat)), .dat (.int (k : Nat)), .dat (.int ((s + 1 : Nat) : Int)), .no, .own (sl.map fun c => eE (fl ++ [(((s + 1 : Nat) : Int), c)])), .no, .no, .no, .own (sl.map fun c => pI (0, 0 - c)), s1, .no, .no, .no, .dat (.lst (fl.map pI)), s2], ⟨by omega, [], .no, .no, rfl, fun c z => absurd z List.not_mem_nil, rfl⟩, fun i z n3 ρ3 hz ⟨e1, sl, s1, s2, e2, e3, e4⟩ => ?_, fun n3 ρ3 ⟨e1, sl, s1, s2, e2, e3, e4⟩ => ?_⟩))
  · subst e4
    rw [Int.toNat_natCast] at hz
    obtain ⟨hi, rfl⟩ := rgD_at hz
    refine ⟨_, _, gd_nm nd 11 (by kernel_rfl), x_cons (x_set nd 16 (by kernel_rfl) (ev_op (ev_take (i := 0) H (hr.mono (by decide)) (by kernel_rfl) (by kernel_rfl) rfl (Ed.ev ed_int ⟨19, rfl, by decide, by decide, by omega, fun t ht => Ed.ev ed_int ⟨_, o_sub, ?_⟩⟩))))⟩
    refine x_cons (x_app 6 (by kernel_rfl) rfl (by rw [List.length_map]; omega) (Ed.ev (d := eE (fl ++ [(((s + 1 : Nat) : Int), (t : Int) - 9)])) (Ed.is (ed_tupleL (by kernel_rfl) (H.free 78) (EdN.ed (edn_op (ed_nm 15 (by kernel_rfl) rfl) (EdN.ed (edn_lst (eda_cons (ed_tup (eda_cons (ed_nm 4 (by kernel_rfl) rfl) (eda_cons (ed_nm 16 (by kernel_rfl) rfl) eda_nil)) (by simp)) eda_nil) (by simp))) (on_cat (by rw [List.length_map]; simp; omega))))) (by unfold eE; rw [List.map_append]; rfl)) ?_))
    refine x_one (x_app 10 (by kernel_rfl) rfl (by rw [List.length_map]; omega) (Ed.ev (ed_tup (eda_cons ed_int (eda_cons (ed_op ed_int (ed_nm 16 (by kernel_rfl) rfl) o_sub) eda_nil)) (by simp)) ?_))
    refine ⟨by omega, sl ++ [(t : Int) - 9], .dat (.int (i : Nat)), .dat (.int ((t : Int) - 9)), by rw [List.length_append, e2]; rfl, fun c hc => ?_, by rw [List.map_append, List.map_append]; rfl⟩
    rcases List.mem_append.mp hc with z | z
    · exact e3 c z
    · rw [List.mem_singleton.mp z]; omega
  · subst e4
    rw [rgD_len, Int.toNat_natCast] at e1 e2
    refine x_freeze (i := 6) rfl (x_freeze (i := 10) rfl (x_one (x_ret (Ed.ev (ed_tup (eda_cons (ed_tup (eda_cons ed_str (eda_cons (ed_tupleL (by kernel_rfl) (H.free 78) (ed_nm 6 (by kernel_rfl) rfl)) eda_nil)) (by simp)) (eda_cons (ed_tupleL (by kernel_rfl) (H.free 78) (ed_nm 10 (by kernel_rfl) rfl)) eda_nil)) (by simp)) ⟨by omega, _, _, ?_, RSh.w23 (fl := fl) (st := s + 1) (sl := sl) hfl (by omega) (by omega) e3 (by omega) (by omega)⟩))))
    show _ = Dat.tup [.tup [.str "max", .tup (List.map eE _)], _]
    rw [List.map_map, List.map_map]
    rfl
end Kb
namespace Kb
/-! the drawn rule is right: key y ≤ key x → x ahead of y costs no less than y ahead of x -/
theorem gd_of {α : Type} {l : List α} {i : Nat} {d a : α} (h : l[i]? = some a) : l.getD i d = a := by
  rw [List.getD_eq_getElem?_getD, h]
  rfl
theorem max1 (a b e u : Int) : maxF (cost1F [(a, b)] e u) = a * e + b * u := rfl
theorem shF_mul {c : Int} {ws : List Int} {i : Nat} {w : Int} (h : ws[i]? = some w) : shF c ws i * w = ws.foldl (· * ·) c := by
  have hl : ws = ws.take i ++ w :: ws.drop (i + 1) := by
    obtain ⟨h1, h2⟩ := List.getElem?_eq_some_iff.mp h
    rw [← h2, ← List.drop_eq_getElem_cons h1, List.take_append_drop]
  have fm : ∀ (l : List Int) (c d : Int), l.foldl (· * ·) (c * d) = l.foldl (· * ·) c * d := by
    intro l
    induction l with
    | nil => intro c d; rfl
    | cons x l ih =>
      intro c d
      rw [List.foldl_cons, List.foldl_cons, show c * d * x = c * x * d by rw [Int.mul_assoc, Int.mul_comm d x, ← Int.mul_assoc]]
      exact ih _ _
  unfold shF
  rw [List.foldl_append]
  conv => rhs; rw [hl, List.foldl_append, List.foldl_cons, fm]
theorem fold_pos : ∀ (l : List Int) (c : Int), (∀ w ∈ l, 1 ≤ w) → 0 < c → 0 < l.foldl (· * ·) c
  | [], c, _, h => h
  | x :: l, c, h, h0 => fold_pos l (c * x) (fun w hw => h w (List.mem_cons_of_mem _ hw)) (Int.mul_pos h0 (by have := h x List.mem_cons_self; omega))
theorem fold_neg (l : List Int) (c : Int) : l.foldl (· * ·) (-c) = -(l.foldl (· * ·) c) := by
  induction l generalizing c with
  | nil => rfl
  | cons x l ih => rw [List.foldl_cons, List.foldl_cons, Int.neg_mul, ih]
theorem right_val {m : Ms} {rl : List (Int × Int)} (h : RSh m rl) {x y : Jb} (ox : x.Ok m.len) (oy : y.Ok m.len) {s : Int} (h0 : 0 ≤ s) (hk : keyF rl y ≤ keyF rl x) : valF m y x s ≤ valF m x y s := by
  obtain ⟨xk, ⟨xt, _⟩, ⟨xu, _⟩⟩ := ox
  obtain ⟨yk, ⟨yt, _⟩, ⟨yu, _⟩⟩ := oy
  cases h with
  | @w6 st k s1 s9 k1 k3 =>
    have xk : x.k < k := by simpa [Ms.len] using xk
    have yk : y.k < k := by simpa [Ms.len] using yk
    have g : ∀ i, i < k → (List.replicate k [((0 : Int) - (st : Int), (0 : Int))]).getD i [] = [(0 - (st : Int), 0)] := fun i hi => gd_of (by rw [List.getElem?_replicate, if_pos hi])
    have g2 : ∀ i, i < k → (List.replicate k (((0 : Int) - (st : Int), (0 : Int)))).getD i (0, 0) = (0 - (st : Int), 0) := fun i hi => gd_of (by rw [List.getElem?_replicate, if_pos hi])
    simp only [keyF, g2 _ xk, g2 _ yk] at hk
    simp only [valF, costVF, g _ xk, g _ yk, max1]
    have e1 : (0 - (st : Int)) * y.t ≤ (0 - (st : Int)) * x.t := by omega
    have e2 : ∀ t : Int, (0 - (st : Int)) * (s + t) = (0 - (st : Int)) * s + (0 - (st : Int)) * t := fun t => Int.mul_add _ _ _
    have e3 : ∀ t u : Int, (0 - (st : Int)) * (s + t + u) = (0 - (st : Int)) * s + (0 - (st : Int)) * t + (0 - (st : Int)) * u := fun t u => by rw [Int.mul_add, Int.mul_add]
    have p1 : (0 - (st : Int)) * x.t ≤ 0 := Int.mul_nonpos_of_nonpos_of_nonneg (by omega) (by omega)
    have p2 : (0 - (st : Int)) * y.t ≤ 0 := Int.mul_nonpos_of_nonpos_of_nonneg (by omega) (by omega)
    rw [e2, e2, e3, e3]
    omega
  | @w5 st h k s1 s8 hh k3 =>
    have xk : x.k < k := by simpa [Ms.len] using xk
    have yk : y.k < k := by simpa [Ms.len] using yk
    have g : ∀ i, i < k → ((List.range k).map fun i => [((st : Int) + (if decide (i = h) then 1 else 0), (0 : Int))]).getD i [] = [((st : Int) + (if decide (i = h) then 1 else 0), 0)] := fun i hi => gd_of (by rw [List.getElem?_map, List.getElem?_range hi]; rfl)
    have g2 : ∀ i, i < k → ((List.range k).map fun i => ((if decide (i ≠ h) then 1 else 0 : Int), (0 : Int))).getD i (0, 0) = ((if decide (i ≠ h) then 1 else 0 : Int), 0) := fun i hi => gd_of (by rw [List.getElem?_map, List.getElem?_range hi]; rfl)
    simp only [keyF, g2 _ xk, g2 _ yk] at hk
    simp only [valF, costVF, g _ xk, g _ yk, max1]
    have p : ∀ t : Int, 0 < t → 0 < (st : Int) * t := fun t ht => Int.mul_pos (by omega) ht
    have p3 : 0 ≤ (st : Int) * s := Int.mul_nonneg (by omega) h0
    have e2 : ∀ (c t : Int), c * (s + t) = c * s + c * t := fun c t => Int.mul_add _ _ _
    have e3 : ∀ c t u : Int, c * (s + t + u) = c * s + c * t + c * u := fun c t u => by rw [Int.mul_add, Int.mul_add]
    have px := p x.t xt
    have py := p y.t yt
    by_cases hx : x.k = h <;> by_cases hy : y.k = h
    · simp only [hx, hy, decide_true, if_true, e2, e3, Int.add_mul, Int.one_mul, Int.zero_mul] at hk ⊢
      omega
    · simp [hx, hy] at hk
      omega
    · simp [hx, hy, e2, e3, Int.add_mul] at hk ⊢
      omega
    · simp [hx, hy, e2, e3, Int.add_mul] at hk ⊢
      omega
  | @w01 g f ws cs hg f1 f3 hl hws hcs w1 w3 =>
    have xk : x.k < ws.length := by simpa [Ms.len, hl] using xk
    have yk : y.k < ws.length := by simpa [Ms.len, hl] using yk
    have ex : ∀ i, i < ws.length → ∃ w c, ws[i]? = some w ∧ (1 ≤ w ∧ w ≤ 9) ∧ ((ws.zip cs).map fun p => [(g * p.1, p.2)]).getD i [] = [(g * w, c)] := fun i hi => by
      refine ⟨ws[i], cs[i]'(by omega), List.getElem?_eq_getElem hi, hws _ (List.getElem_mem hi), gd_of ?_⟩
      rw [List.getElem?_map, List.getElem?_eq_getElem (by rw [List.length_zip]; omega), List.getElem_zip]
      rfl
    obtain ⟨wx, cx, x1, x2, x3⟩ := ex _ xk
    obtain ⟨wy, cy, y1, y2, y3⟩ := ex _ yk
    have g2 : ∀ i, i < ws.length → ((List.range ws.length).map fun i => (shF (f * g) ws i, (0 : Int))).getD i (0, 0) = (shF (f * g) ws i, 0) := fun i hi => gd_of (by rw [List.getElem?_map, List.getElem?_range hi]; rfl)
    simp only [keyF, g2 _ xk, g2 _ yk, Int.zero_mul, Int.add_zero] at hk
    simp only [valF, costVF, x3, y3, max1]
    have mx := shF_mul (c := f * g) x1
    have my := shF_mul (c := f * g) y1
    have hww : 0 < wx * wy := Int.mul_pos (by omega) (by omega)
    have k1 : shF (f * g) ws y.k * y.t * (wx * wy) ≤ shF (f * g) ws x.k * x.t * (wx * wy) := Int.mul_le_mul_of_nonneg_right hk (by omega)
    have l1 : shF (f * g) ws y.k * y.t * (wx * wy) = ws.foldl (· * ·) (f * g) * (wx * y.t) := by
      rw [← my]
      simp only [Int.mul_assoc, Int.mul_comm, Int.mul_left_comm]
    have l2 : shF (f * g) ws x.k * x.t * (wx * wy) = ws.foldl (· * ·) (f * g) * (wy * x.t) := by
      rw [← mx]
      simp only [Int.mul_assoc, Int.mul_comm, Int.mul_left_comm]
    rw [l1, l2] at k1
    have hp : 0 < ws.foldl (· * ·) f := fold_pos ws f (fun w hw => (hws w hw).1) (by omega)
    have key : g * wx * y.t ≤ g * wy * x.t := by
      rcases hg with rfl | rfl
      · rw [Int.mul_one] at k1
        have := Int.le_of_mul_le_mul_left k1 hp
        rw [Int.one_mul, Int.one_mul]
        exact this
      · rw [show f * (-1 : Int) = -f by omega, fold_neg, Int.neg_mul, Int.neg_mul] at k1
        have := Int.le_of_mul_le_mul_left (show ws.foldl (· * ·) f * (wy * x.t) ≤ ws.foldl (· * ·) f * (wx * y.t) by omega) hp
        rw [show (-1 : Int) * wx = -wx by omega, show (-1 : Int) * wy = -wy by omega, Int.neg_mul, Int.neg_mul]
        omega
    have e2 : ∀ (c t : Int), c * (s + t) = c * s + c * t := fun c t => Int.mul_add _ _ _
    have e3 : ∀ c t u : Int, c * (s + t + u) = c * s + c * t + c * u := fun c t u => by rw [Int.mul_add, Int.mul_add]
    rw [e2, e2, e3, e3]
    omega
  | @w4s cs rl hcs c1 c3 hrl hq =>
    have xk : x.k < cs.length := by simpa [Ms.len] using xk
    have yk : y.k < cs.length := by simpa [Ms.len] using yk
    have g : ∀ i, i < cs.length → (cs.map fun c => [((0 : Int), c)]).getD i [] = [(0, cs.getD i 0)] := fun i hi => gd_of (by rw [List.getElem?_map, getD_get hi]; rfl)
    simp only [valF, costVF, g _ xk, g _ yk, max1]
    omega
  | @w4m cs rl hcs c1 c3 hrl hq =>
    have xk : x.k < cs.length := by simpa [Ms.len] using xk
    have yk : y.k < cs.length := by simpa [Ms.len] using yk
    have g : ∀ i, i < cs.length → (cs.map fun c => [((0 : Int), c)]).getD i [] = [(0, cs.getD i 0)] := fun i hi => gd_of (by rw [List.getElem?_map, getD_get hi]; rfl)
    simp only [valF, costVF, g _ xk, g _ yk, max1]
    omega
  | @w23 fl st sl hfl s1 s9 hsl c1 c3 =>
    have xk : x.k < sl.length := by simpa [Ms.len] using xk
    have yk : y.k < sl.length := by simpa [Ms.len] using yk
    have g : ∀ i, i < sl.length → (sl.map fun c => fl ++ [((st : Int), c)]).getD i [] = fl ++ [((st : Int), sl.getD i 0)] := fun i hi => gd_of (by rw [List.getElem?_map, getD_get hi]; rfl)
    have g2 : ∀ i, i < sl.length → (sl.map fun c => ((0 : Int), 0 - c)).getD i (0, 0) = (0, 0 - sl.getD i 0) := fun i hi => gd_of (by rw [List.getElem?_map, getD_get hi]; rfl)
    rw [keyF, keyF, g2 _ xk, g2 _ yk] at hk
    simp only [Int.zero_mul, Int.zero_add, Int.sub_mul, Int.zero_sub, Int.neg_mul] at hk
    simp only [valF, costVF, g _ xk, g _ yk]
    have e2 : ∀ (c t : Int), c * (s + t) = c * s + c * t := fun c t => Int.mul_add _ _ _
    have e3 : ∀ c t u : Int, c * (s + t + u) = c * s + c * t + c * u := fun c t u => by rw [Int.mul_add, Int.mul_add]
    have px : 0 < (st : Int) * x.t := Int.mul_pos (by omega) xt
    have py : 0 < (st : Int) * y.t := Int.mul_pos (by omega) yt
    rcases hfl with rfl | ⟨z, rfl, _⟩
    · simp only [List.nil_append, max1, e2, e3]
      omega
    · have m2 : ∀ a b e u : Int, maxF (cost1F ([((0 : Int), z)] ++ [(a, b)]) e u) = max (0 * e + z * u) (a * e + b * u) := fun _ _ _ _ => rfl
      simp only [m2, e2, e3, Int.zero_mul, Int.zero_add]
      omega
end Kb
namespace Kb
/-! a start that least_start gives is one at which the rows hold -/
def evF (a : List Int) (v : Int) : Int := a.getD 0 0 * v + a.getD 1 0
theorem evF_add {a b : List Int} (ha : a.length = 2) (hb : b.length = 2) (v : Int) : evF (vadd a b) v = evF a v + evF b v := by
  match a, ha, b, hb with
  | [a0, a1], _, [b0, b1], _ =>
    show (a0 + b0) * v + (a1 + b1) = (a0 * v + a1) + (b0 * v + b1)
    rw [Int.add_mul]
    omega
theorem evF_sc {a : List Int} (ha : a.length = 2) (k v : Int) : evF (vsc k a) v = k * evF a v := by
  match a, ha with
  | [a0, a1], _ =>
    show (k * a0) * v + k * a1 = k * (a0 * v + a1)
    rw [Int.mul_add, Int.mul_assoc]
theorem evF_less {a b : List Int} (ha : a.length = 2) (hb : b.length = 2) (v : Int) : evF (vless a b) v = evF a v - evF b v := by
  unfold vless
  rw [evF_add ha (by rw [vsc_len]; exact hb), evF_sc hb]
  omega
/-- a row holds at v -/
def RwH (v : Int) (r : Rw) : Prop := 0 ≤ evF r.1 v - b2i r.2
theorem lsGo_ok : ∀ (rs : List Rw) (low : Int) (high : Option Int) (v : Int), lsGo rs low high = some v → low ≤ v ∧ (∀ h, high = some h → v ≤ h) ∧ ∀ r ∈ rs, RwH v r
  | [], low, high, v, h => by
    rw [lsGo] at h
    split at h
    · rename_i hc
      cases h
      refine ⟨Int.le_refl _, fun z hz => ?_, fun r z => by cases z⟩
      subst hz
      simpa using hc
    · cases h
  | r :: rs, low, high, v, h => by
    rw [lsGo] at h
    split at h
    · cases h
    · rename_i hc
      obtain ⟨i1, i2, i3⟩ := lsGo_ok rs _ _ v h
      obtain ⟨f, hf⟩ : ∃ f, f = r.1.getD 0 0 := ⟨_, rfl⟩
      obtain ⟨n, hn⟩ : ∃ n, n = r.1.getD 1 0 - b2i r.2 := ⟨_, rfl⟩
      rw [← hf, ← hn] at i1 i2 hc
      have hlow : low ≤ v ∧ (0 < f → 0 - n / f ≤ v) := by
        unfold loF at i1
        split at i1
        · split at i1
          · exact ⟨by omega, fun _ => i1⟩
          · exact ⟨i1, fun _ => by omega⟩
        · rename_i z
          exact ⟨i1, fun y => absurd y z⟩
      have hhigh : (∀ h, high = some h → v ≤ h) ∧ (f < 0 → v ≤ n / (0 - f)) := by
        unfold hiF at i2
        by_cases z : f < 0
        · rw [if_pos z] at i2
          have := i2 _ rfl
          cases high with
          | none => exact ⟨fun h e => (by cases e), fun _ => this⟩
          | some h0 =>
            unfold hiM at this
            simp only at this
            split at this
            · exact ⟨fun h e => by cases e; omega, fun _ => this⟩
            · exact ⟨fun h e => by cases e; exact this, fun _ => by omega⟩
        · rw [if_neg z] at i2
          exact ⟨i2, fun y => absurd y z⟩
      refine ⟨hlow.1, hhigh.1, fun r' hr' => ?_⟩
      rcases List.mem_cons.mp hr' with z | z
      · subst z
        show 0 ≤ r'.1.getD 0 0 * v + r'.1.getD 1 0 - b2i r'.2
        rw [← hf, show f * v + r'.1.getD 1 0 - b2i r'.2 = f * v + n by rw [hn]; omega]
        rcases Int.lt_trichotomy f 0 with h1 | h1 | h1
        · have h2 := hhigh.2 h1
          have h3 : (0 - f) * (n / (0 - f)) ≤ n := Int.mul_ediv_self_le (by omega)
          have h4 : (0 - f) * v ≤ (0 - f) * (n / (0 - f)) := Int.mul_le_mul_of_nonneg_left h2 (by omega)
          rw [Int.sub_mul, Int.zero_mul] at h4
          omega
        · subst h1
          rw [Int.zero_mul]
          omega
        · have h2 := hlow.2 h1
          have h3 : f * (n / f) ≤ n := Int.mul_ediv_self_le (by omega)
          have h4 : f * (0 - n / f) ≤ f * v := Int.mul_le_mul_of_nonneg_left h2 (by omega)
          rw [Int.mul_sub, Int.mul_zero] at h4
          omega
      · exact i3 r' z
theorem lsF_ok {rs : List Rw} {v : Int} (h : lsF rs = some v) : 0 ≤ v ∧ ∀ r ∈ rs, RwH v r := by
  obtain ⟨h1, _, h3⟩ := lsGo_ok rs 0 none v h
  exact ⟨h1, h3⟩
theorem minO_mem {l : List Int} {v : Int} (h : minO l = some v) : v ∈ l := by
  cases l with
  | nil => cases h
  | cons n ns =>
    obtain ⟨h3, h4⟩ := minD_mem n ns
    cases h
    exact h3
theorem le_maxF {l : List Int} {x : Int} (h : x ∈ l) : x ≤ maxF l := by
  cases l with
  | nil => cases h
  | cons n ns =>
    show x ≤ ns.foldl max n
    have key : ∀ (ns : List Int) (n : Int), ∀ y ∈ n :: ns, y ≤ ns.foldl max n := by
      intro ns
      induction ns with
      | nil => intro n y hy; rw [List.mem_singleton.mp hy]; exact Int.le_refl _
      | cons a ns ih =>
        intro n y hy
        rw [List.foldl_cons]
        rcases List.mem_cons.mp hy with z | hy
        · exact Int.le_trans (by rw [z]; exact Int.le_max_left _ _) (ih (max n a) _ List.mem_cons_self)
        · rcases List.mem_cons.mp hy with z | hy
          · exact Int.le_trans (by rw [z]; exact Int.le_max_right _ _) (ih (max n a) _ List.mem_cons_self)
          · exact ih _ _ (List.mem_cons_of_mem _ hy)
    exact key ns n x h
theorem maxF_mem {l : List Int} (h : l ≠ []) : maxF l ∈ l := by
  cases l with
  | nil => exact absurd rfl h
  | cons n ns =>
    show ns.foldl max n ∈ n :: ns
    have key : ∀ (ns : List Int) (n : Int), ns.foldl max n ∈ n :: ns := by
      intro ns
      induction ns with
      | nil => intro n; exact List.mem_cons_self
      | cons a ns ih =>
        intro n
        rw [List.foldl_cons]
        rcases List.mem_cons.mp (ih (max n a)) with z | z
        · rw [z]
          rcases Int.le_total n a with q | q
          · rw [Int.max_eq_right q]; exact List.mem_cons_of_mem _ List.mem_cons_self
          · rw [Int.max_eq_left q]; exact List.mem_cons_self
        · exact List.mem_cons_of_mem _ (List.mem_cons_of_mem _ z)
    exact key ns n
end Kb
namespace Kb
theorem costF_map {l : List (Int × Int)} {e d : List Int} (he : e.length = 2) (hd : d.length = 2) (v : Int) : (costF l e d).map (evF · v) = cost1F l (evF e v) (evF d v) := by
  unfold costF cost1F
  rw [List.map_map]
  refine List.map_congr_left fun p _ => ?_
  show evF (vadd (vsc p.1 e) (vsc p.2 d)) v = _
  rw [evF_add (by rw [vsc_len]; exact he) (by rw [vsc_len]; exact hd), evF_sc he, evF_sc hd]
theorem costF_len2 {l : List (Int × Int)} {e d : List Int} (he : e.length = 2) (hd : d.length = 2) : ∀ a ∈ costF l e d, a.length = 2 := fun a ha => by
  obtain ⟨p, _, rfl⟩ := List.mem_map.mp ha
  rw [vadd_len, vsc_len, vsc_len, he, hd]
  rfl
theorem ev_first (t v : Int) : evF (vadd [1, 0] [0, t]) v = v + t := by
  show (1 + 0) * v + (0 + t) = v + t
  omega
theorem ev_last (t u v : Int) : evF (vadd (vadd [1, 0] [0, t]) [0, u]) v = v + t + u := by
  show (1 + 0 + 0) * v + (0 + t + u) = v + t + u
  omega
theorem ev_due (u v : Int) : evF [0, u] v = u := by
  show 0 * v + u = u
  omega
/-- the greatest of the terms is one of them -/
theorem top_of {l : List (Int × Int)} {e d : List Int} (he : e.length = 2) (hd : d.length = 2) (hl : l ≠ []) (v : Int) : ∃ a ∈ costF l e d, evF a v = maxF (cost1F l (evF e v) (evF d v)) := by
  have := maxF_mem (l := cost1F l (evF e v) (evF d v)) (by unfold cost1F; simpa using hl)
  rw [← costF_map he hd] at this
  obtain ⟨a, ha, e1⟩ := List.mem_map.mp this
  refine ⟨a, ha, ?_⟩
  rw [← costF_map he hd]
  exact e1
theorem le_top {l : List (Int × Int)} {e d : List Int} (he : e.length = 2) (hd : d.length = 2) {a : List Int} (ha : a ∈ costF l e d) (v : Int) : evF a v ≤ maxF (cost1F l (evF e v) (evF d v)) := by
  rw [← costF_map he hd]
  exact le_maxF (List.mem_map.mpr ⟨a, ha, rfl⟩)
theorem costF_at {l : List (Int × Int)} {e d : List Int} {i : Nat} (h : i < l.length) : (costF l e d).getD i [] ∈ costF l e d := getD_mem (by unfold costF; rw [List.length_map]; exact h)
theorem flag_row {f w v : Int} {e d : List Int} (hf : f = 0 ∨ f = 1) (he : e.length = 2) (hd : d.length = 2) (h : RwH v (if f = 1 then (vless e d, true) else (vless d e, false))) : (if evF d v < evF e v then w else 0) = w * f := by
  rcases hf with rfl | rfl
  · rw [if_neg (by decide)] at h
    unfold RwH at h
    rw [evF_less hd he] at h
    simp only [b2i] at h
    rw [if_neg (by simp at h; omega), Int.mul_zero]
  · rw [if_pos rfl] at h
    unfold RwH at h
    rw [evF_less he hd] at h
    simp only [b2i, if_true] at h
    rw [if_pos (by omega), Int.mul_one]
theorem first_ok {m : Ms} (ho : m.Ok) {x y : Jb} (ox : x.Ok m.len) (oy : y.Ok m.len) {v : Int} (h : firstF m x y = some v) : 0 ≤ v ∧ valF m x y v < valF m y x v := by
  have h1 := minO_mem h
  unfold startsF at h1
  obtain ⟨c, hc, hls⟩ := List.mem_filterMap.mp h1
  obtain ⟨h0, hrows⟩ := lsF_ok hls
  refine ⟨h0, ?_⟩
  have l2 : ∀ a b : Int, ([a, b] : List Int).length = 2 := fun _ _ => rfl
  have lf : ∀ t : Int, (vadd [1, 0] [0, t]).length = 2 := fun _ => rfl
  have ll : ∀ t u : Int, (vadd (vadd [1, 0] [0, t]) [0, u]).length = 2 := fun _ _ => rfl
  cases m with
  | sum es =>
    have na : es.getD y.k [] ≠ [] := (ho.2 _ (getD_mem (d := []) oy.k)).1
    have nb : es.getD x.k [] ≠ [] := (ho.2 _ (getD_mem (d := []) ox.k)).1
    simp only [Ms.casesF, List.mem_flatMap, List.mem_map, List.mem_range] at hc
    obtain ⟨i, hi, j, hj, rfl⟩ := hc
    simp only [valF, costVF]
    simp only [Ms.rowsF] at hrows
    obtain ⟨la, ela⟩ : ∃ la, la = es.getD y.k [] := ⟨_, rfl⟩
    obtain ⟨lb, elb⟩ : ∃ lb, lb = es.getD x.k [] := ⟨_, rfl⟩
    rw [← ela] at na hi hrows
    rw [← elb] at nb hj hrows
    rw [← ela, ← elb]
    obtain ⟨one, o1, o2⟩ := top_of (l := lb) (lf x.t) (l2 0 x.u) nb v
    obtain ⟨two, t1, t2⟩ := top_of (l := la) (ll y.t x.t) (l2 0 y.u) na v
    have a1 := costF_at (l := la) (e := vadd [1, 0] [0, y.t]) (d := [0, y.u]) hi
    have b1 := costF_at (l := lb) (e := vadd (vadd [1, 0] [0, y.t]) [0, x.t]) (d := [0, x.u]) hj
    have hr := hrows _ (List.mem_flatMap.mpr ⟨one, o1, List.mem_map.mpr ⟨two, t1, rfl⟩⟩)
    have ei : ((([(i : Int), (j : Int)] : List Int).getD 0 0).toNat) = i := Int.toNat_natCast i
    have ej : ((([(i : Int), (j : Int)] : List Int).getD 1 0).toNat) = j := Int.toNat_natCast j
    rw [ei, ej] at hr
    have a2 := le_top (lf y.t) (l2 0 y.u) a1 v
    have b2 := le_top (ll y.t x.t) (l2 0 x.u) b1 v
    have la2 := costF_len2 (lf y.t) (l2 0 y.u) _ a1
    have lb2 := costF_len2 (ll y.t x.t) (l2 0 x.u) _ b1
    have lo := costF_len2 (lf x.t) (l2 0 x.u) _ o1
    have lt := costF_len2 (ll y.t x.t) (l2 0 y.u) _ t1
    unfold RwH at hr
    rw [evF_less (by rw [vadd_len, la2, lb2]; rfl) (by rw [vadd_len, lo, lt]; rfl), evF_add la2 lb2, evF_add lo lt, o2, t2] at hr
    rw [ev_first, ev_due] at a2 hr
    rw [ev_last, ev_due] at b2 hr
    simp only [ev_last, ev_due, b2i, if_true] at a2 b2 hr
    rw [show v + x.t + y.t = v + y.t + x.t by omega]
    omega
  | max es =>
    have na : es.getD y.k [] ≠ [] := (ho.2 _ (getD_mem (d := []) oy.k)).1
    have nb : es.getD x.k [] ≠ [] := (ho.2 _ (getD_mem (d := []) ox.k)).1
    simp only [valF, costVF]
    revert na nb hrows hc
    simp only [Ms.rowsF, Ms.casesF]
    generalize es.getD y.k [] = la
    generalize es.getD x.k [] = lb
    intro hc hrows na nb
    -- the worst of y ahead of x
    obtain ⟨W, hW, hw2, hall⟩ : ∃ W : List Int, W.length = 2 ∧ evF W v ≤ max (maxF (cost1F la (v + y.t) y.u)) (maxF (cost1F lb (v + y.t + x.t) x.u)) ∧ ∀ one ∈ costF lb (vadd [1, 0] [0, x.t]) [0, x.u] ++ costF la (vadd (vadd [1, 0] [0, y.t]) [0, x.t]) [0, y.u], RwH v (vless W one, true) := by
      rw [List.mem_append] at hc
      rcases hc with hc | hc
      · obtain ⟨i, hi, rfl⟩ := List.mem_map.mp hc
        have hi := List.mem_range.mp hi
        have a1 := costF_at (l := la) (e := vadd [1, 0] [0, y.t]) (d := [0, y.u]) hi
        refine ⟨_, costF_len2 (lf y.t) (l2 0 y.u) _ a1, ?_, fun one ho => ?_⟩
        · have a2 := le_top (lf y.t) (l2 0 y.u) a1 v
          rw [ev_first, ev_due] at a2
          omega
        · have := hrows _ (List.mem_map.mpr ⟨one, ho, rfl⟩)
          rw [if_pos (show ([(0 : Int), (i : Int)] : List Int).getD 0 0 = 0 from rfl), show ((([(0 : Int), (i : Int)] : List Int).getD 1 0).toNat) = i from Int.toNat_natCast i] at this
          exact this
      · obtain ⟨i, hi, rfl⟩ := List.mem_map.mp hc
        have hi := List.mem_range.mp hi
        have a1 := costF_at (l := lb) (e := vadd (vadd [1, 0] [0, y.t]) [0, x.t]) (d := [0, x.u]) hi
        refine ⟨_, costF_len2 (ll y.t x.t) (l2 0 x.u) _ a1, ?_, fun one ho => ?_⟩
        · have a2 := le_top (ll y.t x.t) (l2 0 x.u) a1 v
          rw [ev_last, ev_due] at a2
          omega
        · have := hrows _ (List.mem_map.mpr ⟨one, ho, rfl⟩)
          rw [if_neg (show ¬ ([(1 : Int), (i : Int)] : List Int).getD 0 0 = 0 from by show ¬ (1 : Int) = 0; decide), show ((([(1 : Int), (i : Int)] : List Int).getD 1 0).toNat) = i from Int.toNat_natCast i] at this
          exact this
    obtain ⟨one, o1, o2⟩ := top_of (l := lb) (lf x.t) (l2 0 x.u) nb v
    obtain ⟨two, t1, t2⟩ := top_of (l := la) (ll y.t x.t) (l2 0 y.u) na v
    have lo := costF_len2 (lf x.t) (l2 0 x.u) _ o1
    have lt := costF_len2 (ll y.t x.t) (l2 0 y.u) _ t1
    have r1 := hall one (List.mem_append.mpr (.inl o1))
    have r2 := hall two (List.mem_append.mpr (.inr t1))
    unfold RwH at r1 r2
    rw [evF_less hW lo, o2, ev_first, ev_due] at r1
    rw [evF_less hW lt, t2, ev_last, ev_due] at r2
    simp only [b2i, if_true] at r1 r2
    rw [show v + x.t + y.t = v + y.t + x.t by omega]
    omega
  | late ws =>
    simp only [Ms.casesF] at hc
    obtain ⟨hcf, hlt⟩ := List.mem_filter.mp hc
    obtain ⟨c4, c01⟩ := flagsF_ok c hcf
    simp only [valF, costVF]
    match c, c4, c01, hlt, hrows with
    | [f0, f1, f2, f3], _, c01, hlt, hrows =>
      have r0 := flag_row (w := ws.getD y.k 0) (c01 f0 (by simp)) (lf y.t) (l2 0 y.u) (hrows _ (List.mem_cons_self))
      have r1 := flag_row (w := ws.getD x.k 0) (c01 f1 (by simp)) (ll y.t x.t) (l2 0 x.u) (hrows _ (List.mem_cons_of_mem _ List.mem_cons_self))
      have r2 := flag_row (w := ws.getD x.k 0) (c01 f2 (by simp)) (lf x.t) (l2 0 x.u) (hrows _ (List.mem_cons_of_mem _ (List.mem_cons_of_mem _ List.mem_cons_self)))
      have r3 := flag_row (w := ws.getD y.k 0) (c01 f3 (by simp)) (ll y.t x.t) (l2 0 y.u) (hrows _ (List.mem_cons_of_mem _ (List.mem_cons_of_mem _ (List.mem_cons_of_mem _ List.mem_cons_self))))
      rw [ev_first, ev_due] at r0 r2
      rw [ev_last, ev_due] at r1 r3
      have hlt' : ws.getD x.k 0 * f2 + ws.getD y.k 0 * f3 < ws.getD y.k 0 * f0 + ws.getD x.k 0 * f1 := of_decide_eq_true hlt
      rw [show v + x.t + y.t = v + y.t + x.t by omega, r0, r1, r2, r3]
      exact hlt'
end Kb
namespace Kb
theorem lsGo_bd : ∀ (rs : List Rw) (low : Int) (high : Option Int) (v : Int), (∀ r ∈ rs, Fm 200 r.1) → Bd 300 low → lsGo rs low high = some v → Bd 300 v
  | [], low, high, v, _, hl, h => by
    rw [lsGo] at h
    split at h
    · cases h; exact hl
    · cases h
  | r :: rs, low, high, v, hr, hl, h => by
    rw [lsGo] at h
    split at h
    · cases h
    · refine lsGo_bd rs _ _ v (fun r' h' => hr r' (List.mem_cons_of_mem _ h')) ?_ h
      have b1 : Bd 200 (r.1.getD 1 0) := (fm_at (hr r List.mem_cons_self) 1 (by decide)).2
      have b2 : Bd 201 (r.1.getD 1 0 - b2i r.2) := by
        have := bd_add b1 (show Bd 200 (-(b2i r.2)) by cases r.2 <;> exact (show Bd 1 _ by decide).mono (by decide))
        rwa [Int.add_neg_eq_sub] at this
      unfold loF
      split
      · split
        · have b3 : Bd 201 ((r.1.getD 1 0 - b2i r.2) / r.1.getD 0 0) := by
            show Int.natAbs _ < _
            exact Nat.lt_of_le_of_lt (Int.natAbs_ediv_le_natAbs _ _) b2
          show Int.natAbs _ < _
          rw [Int.zero_sub, Int.natAbs_neg]
          exact b3.mono (by decide)
        · exact hl
      · exact hl
theorem first_bd {m : Ms} (ho : m.Ok) {x y : Jb} (ox : x.Ok m.len) (oy : y.Ok m.len) {v : Int} (h : firstF m x y = some v) : Bd 900 v := by
  have h1 := minO_mem h
  unfold startsF at h1
  obtain ⟨c, hc, hls⟩ := List.mem_filterMap.mp h1
  have hrw := rws_of (s := [1, 0]) (p := [0, y.t]) (d := [0, y.u]) (q := [0, x.t]) (e := [0, x.u]) oy.k ox.k hc
  have fs : Fm 70 [1, 0] := ⟨rfl, by decide⟩
  have hfm := rws_fm hrw ho fs (fm_one oy.t.2) (fm_one oy.u.2) (fm_one ox.t.2) (fm_one ox.u.2)
  exact (lsGo_bd _ 0 none v hfm (show Bd 300 0 from (show Bd 1 0 by decide).mono (by decide)) hls).mono (by decide)
theorem dm_mem {m : Ms} {cat : List Jb} {q : Dm} (h : q ∈ demandsF m cat) : q.1 < cat.length ∧ q.2.1 < cat.length ∧ firstF m (jb cat q.1) (jb cat q.2.1) = some q.2.2 := by
  unfold demandsF at h
  obtain ⟨i, hi, h⟩ := List.mem_flatMap.mp h
  obtain ⟨j, hj, h⟩ := List.mem_filterMap.mp h
  unfold dmAt at h
  cases hf : firstF m (jb cat i) (jb cat j) with
  | none => rw [hf] at h; cases h
  | some s =>
    rw [hf] at h
    cases h
    exact ⟨List.mem_range.mp hi, List.mem_range.mp hj, hf⟩
theorem mem_dm {m : Ms} {cat : List Jb} {i j : Nat} {s : Int} (hi : i < cat.length) (hj : j < cat.length) (h : firstF m (jb cat i) (jb cat j) = some s) : (i, j, s) ∈ demandsF m cat := by
  refine List.mem_flatMap.mpr ⟨i, List.mem_range.mpr hi, List.mem_filterMap.mpr ⟨j, List.mem_range.mpr hj, ?_⟩⟩
  unfold dmAt
  rw [h]
  rfl
theorem jb_ok {m : Ms} {cat : List Jb} (hc : okCat m cat) {i : Nat} (hi : i < cat.length) : (jb cat i).Ok m.len := hc.2 _ (getD_mem hi)
theorem dm_ok {m : Ms} {cat : List Jb} (ho : m.Ok) (hc : okCat m cat) {q : Dm} (h : q ∈ demandsF m cat) : DmOk m cat q := by
  obtain ⟨h1, h2, h3⟩ := dm_mem h
  have ox := jb_ok hc h1
  have oy := jb_ok hc h2
  obtain ⟨h4, h5⟩ := first_ok ho ox oy h3
  exact ⟨h1, h2, ⟨h4, first_bd ho ox oy h3⟩, h5⟩
/-- the drawn rule keeps every demand -/
theorem right_dm {m : Ms} {rl : List (Int × Int)} (hR : RSh m rl) {cat : List Jb} (ho : m.Ok) (hc : okCat m cat) {q : Dm} (h : q ∈ demandsF m cat) : keyF rl (jb cat q.1) + 1 ≤ keyF rl (jb cat q.2.1) := by
  have d := dm_ok ho hc h
  rcases Int.lt_or_le (keyF rl (jb cat q.1)) (keyF rl (jb cat q.2.1)) with z | z
  · omega
  · have := right_val hR (jb_ok hc d.i) (jb_ok hc d.j) d.s.1 z
    have := d.lt
    omega
/-- the ring that is found is a ring -/
theorem ring_ok {m : Ms} {cat : List Jb} (ho : m.Ok) (hc : okCat m cat) {rg : List Dm} (h : ringOf (demandsF m cat) cat.length = some rg) : RgOk m cat rg := by
  obtain ⟨h1, h2, h3, h4, h5⟩ := ringOf_ok h
  have h4' : rg.map (fun q => q.2.1) = (rg.map (fun q => q.1)).drop 1 ++ (rg.map (fun q => q.1)).take 1 := h4
  refine ⟨?_, by have := hc.1; omega, fun q hq => dm_ok ho hc (h3 q hq), h4', h5⟩
  match rg, h1, h3, h4' with
  | [], h1, _, _ => exact absurd rfl h1
  | [q], _, h3, h4 =>
    have e : q.2.1 = q.1 := by simpa using h4
    have := (dm_ok ho hc (h3 q List.mem_cons_self)).lt
    rw [e] at this
    omega
  | _ :: _ :: _, _, _, _ => simp
end Kb
namespace Kb
theorem fo_ex (rl : List (Int × Int)) (cat : List Jb) : ∃ fo, isFO rl cat fo := by
  refine ⟨(keysF rl cat).mergeSort (fun p q => !decide (lexLt (i2 q) (i2 p))), List.mergeSort_perm _ _, ?_⟩
  rw [List.pairwise_map]
  have h := List.pairwise_mergeSort (le := fun p q : Int × Nat => !decide (lexLt (i2 q) (i2 p))) (fun a b c h1 h2 => by
    simp only [lexLt, Bool.not_eq_true', decide_eq_false_iff_not] at h1 h2 ⊢
    omega) (fun a b => by
    simp only [lexLt, Bool.or_eq_true, Bool.not_eq_true', decide_eq_false_iff_not]
    omega) (keysF rl cat)
  exact h.imp fun h => of_decide_eq_false (by simpa only [Bool.not_eq_true'] using h)
theorem fo_mem {rl : List (Int × Int)} {cat : List Jb} {p : Int × Nat} (h : p ∈ keysF rl cat) : p.2 < cat.length ∧ p.1 = keyF rl (jb cat p.2) := by
  obtain ⟨q, hq, rfl⟩ := List.mem_map.mp h
  obtain ⟨i, hi, e⟩ := List.getElem_of_mem hq
  rw [List.getElem_zipIdx] at e
  rw [List.length_zipIdx] at hi
  subst e
  simp only [Nat.zero_add]
  refine ⟨hi, ?_⟩
  unfold jb
  rw [List.getD_eq_getElem?_getD, List.getElem?_eq_getElem hi]
  rfl
theorem fo_ranks {m : Ms} {rl : List (Int × Int)} {cat : List Jb} {fo : List (Int × Nat)} (hf : isFO rl cat fo) (hk : ∀ q ∈ demandsF m cat, keyF rl (jb cat q.1) + 1 ≤ keyF rl (jb cat q.2.1)) : (fo.map (·.2)).Perm (List.range cat.length) ∧ (fo.map (·.2)).Pairwise (fun j i => firstF m (jb cat i) (jb cat j) = none) := by
  obtain ⟨h1, h2⟩ := hf
  constructor
  · refine (h1.map _).trans ?_
    unfold keysF
    rw [List.map_map]
    show (cat.zipIdx.map fun p => p.2).Perm _
    rw [List.zipIdx_map_snd, List.range_eq_range']
  · rw [List.pairwise_map] at h2 ⊢
    refine h2.imp_of_mem fun {p q} hp hq h => ?_
    obtain ⟨a1, a2⟩ := fo_mem (h1.mem_iff.mp hp)
    obtain ⟨b1, b2⟩ := fo_mem (h1.mem_iff.mp hq)
    cases hz : firstF m (jb cat q.2) (jb cat p.2) with
    | none => rfl
    | some s =>
      have := hk _ (mem_dm b1 a1 hz)
      simp only at this
      rw [← a2, ← b2] at this
      exact absurd (show lexLt (i2 q) (i2 p) from .inl (by show q.1 < p.1; omega)) h
end Kb
namespace Kb
def ltD (a b : Dm) : Prop := a.1 < b.1 ∨ (a.1 = b.1 ∧ a.2.1 < b.2.1)
theorem dms_pw (m : Ms) (cat : List Jb) : (demandsF m cat).Pairwise ltD := by
  unfold demandsF
  rw [List.pairwise_flatMap]
  constructor
  · intro i _
    rw [List.pairwise_filterMap]
    refine List.pairwise_lt_range.imp fun {j j'} hj b hb b' hb' => ?_
    unfold dmAt at hb hb'
    cases h1 : firstF m (jb cat i) (jb cat j) with
    | none => rw [h1] at hb; cases hb
    | some s =>
      cases h2 : firstF m (jb cat i) (jb cat j') with
      | none => rw [h2] at hb'; cases hb'
      | some s' =>
        rw [h1] at hb
        rw [h2] at hb'
        cases hb
        cases hb'
        exact .inr ⟨rfl, hj⟩
  · refine List.pairwise_lt_range.imp fun {i i'} hi x hx y hy => ?_
    have e : ∀ {i : Nat} {x : Dm}, x ∈ (List.range cat.length).filterMap (fun j => dmAt m cat i j) → x.1 = i := fun {i x} hx => by
      obtain ⟨j, _, h⟩ := List.mem_filterMap.mp hx
      unfold dmAt at h
      cases h1 : firstF m (jb cat i) (jb cat j) with
      | none => rw [h1] at h; cases h
      | some s => rw [h1] at h; cases h; rfl
    exact .inl (by rw [e hx, e hy]; exact hi)
theorem dms_nodup (m : Ms) (cat : List Jb) : (demandsF m cat).Nodup := (dms_pw m cat).imp fun {a b} h e => by
  subst e
  rcases h with h | h <;> omega
/-- which demands the ring holds -/
def inRg (rg : List Dm) (q : Dm) : Bool := decide ((q.1, q.2.1) ∈ rg.map fun r => (r.1, r.2.1))
def indF (m : Ms) (cat : List Jb) (rg : List Dm) : List Int := (demandsF m cat).map fun q => b2i (inRg rg q)
theorem inRg_mem {m : Ms} {cat : List Jb} {rg : List Dm} (hs : ∀ q ∈ rg, q ∈ demandsF m cat) {q : Dm} (hq : q ∈ demandsF m cat) : inRg rg q = true ↔ q ∈ rg := by
  unfold inRg
  rw [decide_eq_true_eq]
  constructor
  · intro h
    obtain ⟨r, hr, e⟩ := List.mem_map.mp h
    have e1 : r.1 = q.1 := (Prod.mk.inj e).1
    have e2 : r.2.1 = q.2.1 := (Prod.mk.inj e).2
    have h1 := (dm_mem hq).2.2
    have h2 := (dm_mem (hs r hr)).2.2
    rw [e1, e2] at h2
    have e3 : r.2.2 = q.2.2 := Option.some.inj (h2.symm.trans h1)
    have : r = q := Prod.ext e1 (Prod.ext e2 e3)
    exact this ▸ hr
  · exact fun h => List.mem_map.mpr ⟨q, h, rfl⟩
theorem rg_perm {m : Ms} {cat : List Jb} {rg : List Dm} (hs : ∀ q ∈ rg, q ∈ demandsF m cat) (hn : rg.Nodup) : ((demandsF m cat).filter (inRg rg)).Perm rg := by
  rw [List.perm_ext_iff_of_nodup ((dms_nodup m cat).filter _) hn]
  intro q
  rw [List.mem_filter]
  constructor
  · exact fun ⟨h1, h2⟩ => (inRg_mem hs h1).mp h2
  · exact fun h => ⟨hs q h, (inRg_mem hs (hs q h)).mpr h⟩
theorem sum_ind (l : List Dm) (t : Dm → Bool) (φ : Dm → Int) : (l.map fun q => b2i (t q) * φ q).sum = ((l.filter t).map φ).sum := by
  induction l with
  | nil => rfl
  | cons q l ih =>
    rw [List.map_cons, List.sum_cons, ih, List.filter_cons]
    cases t q with
    | true => simp [b2i]
    | false => simp [b2i]
theorem sum_perm {l l' : List Int} (h : l.Perm l') : l.sum = l'.sum := by
  induction h with
  | nil => rfl
  | cons x _ ih => rw [List.sum_cons, List.sum_cons, ih]
  | swap x y l => simp only [List.sum_cons]; omega
  | trans _ _ i1 i2 => rw [i1, i2]
/-- the ring takes each place as often as it gives it -/
theorem rg_sum {m : Ms} {cat : List Jb} {rg : List Dm} (hs : ∀ q ∈ rg, q ∈ demandsF m cat) (hg : RgOk m cat rg) (ψ : Nat → Int) : ((demandsF m cat).map fun q => b2i (inRg rg q) * ψ q.1).sum = ((demandsF m cat).map fun q => b2i (inRg rg q) * ψ q.2.1).sum := by
  have hn : rg.Nodup := by
    have := hg.nd
    unfold List.Nodup at this ⊢
    rw [List.pairwise_map] at this
    exact this.imp fun h e => h (by rw [e])
  have hp := rg_perm hs hn
  rw [sum_ind _ _ fun q => ψ q.1, sum_ind _ _ fun q => ψ q.2.1, sum_perm (hp.map fun q => ψ q.1), sum_perm (hp.map fun q => ψ q.2.1)]
  have e1 : (rg.map fun q => ψ q.1) = (rg.map fun q => q.1).map ψ := by rw [List.map_map]; rfl
  have e2 : (rg.map fun q => ψ q.2.1) = (rg.map fun q => q.2.1).map ψ := by rw [List.map_map]; rfl
  rw [e1, e2, hg.turn, List.map_append]
  refine sum_perm ?_
  have : ((rg.map fun q => q.1).map ψ) = ((rg.map fun q => q.1).take 1).map ψ ++ ((rg.map fun q => q.1).drop 1).map ψ := by rw [← List.map_append, List.take_append_drop]
  rw [this]
  exact List.perm_append_comm
end Kb
namespace Kb
theorem vec_at {K : Nat} {j : Jb} (hj : j.k < K) {k pl : Nat} (hk : k < K) (hp : pl < 2) : (vecF K j).getD (2 * k + pl) 0 = if j.k = k then jAt j pl else 0 := by
  have hl : (List.replicate (2 * K) (0 : Int)).length = 2 * K := List.length_replicate
  unfold vecF
  rw [List.getD_eq_getElem?_getD, List.getElem?_set, List.getElem?_set]
  simp only [List.length_set, hl]
  have hp2 : pl = 0 ∨ pl = 1 := by omega
  by_cases h : j.k = k
  · subst h
    rcases hp2 with rfl | rfl
    · rw [if_neg (by omega), if_pos (by omega), if_pos (by omega), if_pos rfl]
      rfl
    · rw [if_pos (by omega), if_pos (by omega), if_pos rfl]
      rfl
  · rw [if_neg (by omega), if_neg (by omega), if_neg h, List.getElem?_replicate]
    split <;> rfl
theorem vless_getD {a b : List Int} (h : a.length = b.length) (i : Nat) : (vless a b).getD i 0 = a.getD i 0 - b.getD i 0 := by
  unfold vless vadd vsc
  rw [List.getD_eq_getElem?_getD, List.getD_eq_getElem?_getD, List.getD_eq_getElem?_getD, List.getElem?_zipWith, List.getElem?_map]
  by_cases hi : i < a.length
  · rw [List.getElem?_eq_getElem hi, List.getElem?_eq_getElem (by omega)]
    show a[i] + -1 * b[i] = a[i] - b[i]
    omega
  · rw [List.getElem?_eq_none (by omega), List.getElem?_eq_none (l := b) (by omega)]
    rfl
/-- a sum over some, as one over all -/
theorem sum_filter {α : Type} (l : List α) (t : α → Bool) (f : α → Int) : ((l.filter t).map f).sum = (l.map fun x => if t x then f x else 0).sum := by
  induction l with
  | nil => rfl
  | cons x l ih =>
    rw [List.filter_cons, List.map_cons, List.sum_cons, ← ih]
    cases t x with
    | true => simp
    | false => simp
theorem sum_sub {α : Type} (l : List α) (f g : α → Int) : (l.map fun x => f x - g x).sum = (l.map f).sum - (l.map g).sum := by
  induction l with
  | nil => rfl
  | cons x l ih => simp only [List.map_cons, List.sum_cons, ih]; omega
theorem col_at {K : Nat} {s : Sg2} (h1 : s.1.k < K) (h2 : s.2.k < K) {k pl : Nat} (hk : k < K) (hp : pl < 2) : (rowF K s.1 s.2).getD (2 * k + pl) 0 = (if s.2.k = k then jAt s.2 pl else 0) - (if s.1.k = k then jAt s.1 pl else 0) := by
  unfold rowF
  rw [vless_getD (by rw [vecF_len, vecF_len]), vec_at h2 hk hp, vec_at h1 hk hp]
theorem zw_zip : ∀ (ss : List Sg2) (v : List Int) (f : Sg2 → Int), (List.zipWith (· * ·) (ss.map f) v) = (v.zip ss).map fun p => p.1 * f p.2
  | [], v, f => by cases v <;> rfl
  | s :: ss, [], f => rfl
  | s :: ss, x :: v, f => by
    rw [List.map_cons, List.zipWith_cons_cons, List.zip_cons_cons, List.map_cons, zw_zip ss v f, Int.mul_comm]
/-- a column of the rows, weighed: what the seconds take less what the firsts give -/
theorem col_dot {K : Nat} {ss : List Sg2} (hs : ∀ s ∈ ss, s.1.k < K ∧ s.2.k < K) (v : List Int) {k pl : Nat} (hk : k < K) (hp : pl < 2) : dotF (ss.map fun s => (rowF K s.1 s.2).getD (2 * k + pl) 0) v = colB ss v k pl - colA ss v k pl := by
  unfold dotF colA colB
  rw [zw_zip, sum_filter, sum_filter, ← sum_sub]
  congr 1
  refine List.map_congr_left fun p hp' => ?_
  have hm := hs _ (List.of_mem_zip hp').2
  rw [col_at hm.1 hm.2 hk hp]
  have e1 : ∀ a b : Nat, decide ((a : Int) = (b : Int)) = decide (a = b) := fun a b => by rw [decide_eq_decide]; omega
  simp only [e1, decide_eq_true_eq]
  by_cases a1 : p.2.1.k = k <;> by_cases a2 : p.2.2.k = k <;> simp [a1, a2, Int.mul_sub, Int.mul_neg]
theorem isQF_of {K : Nat} {ss : List Sg2} {v : List Int} (hs : ∀ s ∈ ss, s.1.k < K ∧ s.2.k < K) (h : LQ K ss v) : isQF K ss v = true := by
  unfold isQF
  rw [Bool.and_eq_true, Bool.and_eq_true]
  refine ⟨?_, ?_, ?_⟩
  · rw [List.all_eq_true]; exact fun x hx => decide_eq_true (h.nn x hx)
  · obtain ⟨x, hx, h0⟩ := h.ps
    rw [List.any_eq_true]; exact ⟨x, hx, decide_eq_true h0⟩
  · rw [List.all_eq_true]
    intro col hcol
    have hc := List.mem_range.mp hcol
    have e : col = 2 * (col / 2) + col % 2 := by omega
    refine decide_eq_true ?_
    have := h.bal (col / 2) (by omega) (col % 2) (by omega)
    have hd := col_dot hs v (k := col / 2) (pl := col % 2) (by omega) (by omega)
    rw [← e] at hd
    rw [hd]
    omega
def sights (m : Ms) (cat : List Jb) : List Sg2 := (demandsF m cat).map fun q => (jb cat q.1, jb cat q.2.1)
theorem sights_ok {m : Ms} {cat : List Jb} (ho : m.Ok) (hc : okCat m cat) : okS m.len (sights m cat) := by
  refine ⟨by unfold sights; rw [List.length_map]; have := dmF_len (m := m) hc.1; omega, fun s hs => ?_⟩
  obtain ⟨q, hq, rfl⟩ := List.mem_map.mp hs
  have := dm_mem hq
  exact ⟨jb_ok hc this.1, jb_ok hc this.2.1⟩
/-- the ring's demands quarrel -/
theorem ring_LQ {m : Ms} {cat : List Jb} (ho : m.Ok) (hc : okCat m cat) {rg : List Dm} (h : ringOf (demandsF m cat) cat.length = some rg) : LQ m.len (sights m cat) (indF m cat rg) := by
  have hg := ring_ok ho hc h
  have hs : ∀ q ∈ rg, q ∈ demandsF m cat := (ringOf_ok h).2.2.1
  refine ⟨by unfold sights indF; rw [List.length_map, List.length_map], fun x hx => ?_, ?_, fun k hk pl hp => ?_⟩
  · obtain ⟨q, _, rfl⟩ := List.mem_map.mp hx
    cases inRg rg q <;> decide
  · match rg, hg.two, hs with
    | q :: rest, _, hs =>
      have hq := hs q List.mem_cons_self
      refine ⟨_, List.mem_map.mpr ⟨q, hq, rfl⟩, ?_⟩
      rw [(inRg_mem hs hq).mpr List.mem_cons_self]
      decide
  · have hz : (indF m cat rg).zip (sights m cat) = (demandsF m cat).map fun q => (b2i (inRg rg q), (jb cat q.1, jb cat q.2.1)) := by
      unfold indF sights
      rw [List.zip_map']
    unfold colA colB
    rw [hz, sum_filter, sum_filter, List.map_map, List.map_map]
    have e1 : ∀ a b : Nat, decide ((a : Int) = (b : Int)) = decide (a = b) := fun a b => by rw [decide_eq_decide]; omega
    have := rg_sum hs hg fun i => if (jb cat i).k = k then jAt (jb cat i) pl else 0
    refine Eq.trans ?_ (Eq.trans this ?_)
    · congr 1
      refine List.map_congr_left fun q _ => ?_
      simp only [Function.comp_apply, e1, decide_eq_true_eq]
      by_cases a1 : (jb cat q.1).k = k <;> simp [a1]
    · congr 1
      refine List.map_congr_left fun q _ => ?_
      simp only [Function.comp_apply, e1, decide_eq_true_eq]
      by_cases a1 : (jb cat q.2.1).k = k <;> simp [a1]
end Kb
namespace Kb
/-! determinants by wedges -/
abbrev Vec := Nat → Int
def Lam : Nat → Type
  | 0 => Int
  | m + 1 => Lam m × Lam m
def lzero : (m : Nat) → Lam m
  | 0 => (0 : Int)
  | m + 1 => (lzero m, lzero m)
def ladd : (m : Nat) → Lam m → Lam m → Lam m
  | 0, x, y => (show Int from x) + (show Int from y)
  | m + 1, x, y => (ladd m x.1 y.1, ladd m x.2 y.2)
def lsm : (m : Nat) → Int → Lam m → Lam m
  | 0, c, x => c * (show Int from x)
  | m + 1, c, x => (lsm m c x.1, lsm m c x.2)
def wdg : (m : Nat) → Vec → Lam m → Lam m
  | 0, _, _ => (0 : Int)
  | m + 1, v, x => (wdg m v x.1, ladd m (lsm m (v m) x.1) (lsm m (-1) (wdg m v x.2)))
def lone : (m : Nat) → Lam m
  | 0 => (1 : Int)
  | m + 1 => (lone m, lzero m)
def ltop : (m : Nat) → Lam m → Int
  | 0, x => x
  | m + 1, x => ltop m x.2
theorem ladd_comm : ∀ (m : Nat) (x y : Lam m), ladd m x y = ladd m y x
  | 0, x, y => Int.add_comm x y
  | m + 1, x, y => by simp only [ladd]; rw [ladd_comm m x.1, ladd_comm m x.2]
theorem ladd_assoc : ∀ (m : Nat) (x y z : Lam m), ladd m (ladd m x y) z = ladd m x (ladd m y z)
  | 0, x, y, z => Int.add_assoc x y z
  | m + 1, x, y, z => by simp only [ladd]; rw [ladd_assoc m, ladd_assoc m]
theorem ladd_zero : ∀ (m : Nat) (x : Lam m), ladd m x (lzero m) = x
  | 0, x => Int.add_zero x
  | m + 1, x => by show (ladd m x.1 (lzero m), ladd m x.2 (lzero m)) = (x.1, x.2); rw [ladd_zero m, ladd_zero m]
theorem lsm_add : ∀ (m : Nat) (c : Int) (x y : Lam m), lsm m c (ladd m x y) = ladd m (lsm m c x) (lsm m c y)
  | 0, c, x, y => Int.mul_add c x y
  | m + 1, c, x, y => by simp only [ladd, lsm]; rw [lsm_add m, lsm_add m]
theorem lsm_lsm : ∀ (m : Nat) (c d : Int) (x : Lam m), lsm m c (lsm m d x) = lsm m (c * d) x
  | 0, c, d, x => (Int.mul_assoc c d x).symm
  | m + 1, c, d, x => by simp only [lsm]; rw [lsm_lsm m, lsm_lsm m]
theorem add_lsm : ∀ (m : Nat) (c d : Int) (x : Lam m), lsm m (c + d) x = ladd m (lsm m c x) (lsm m d x)
  | 0, c, d, x => Int.add_mul c d x
  | m + 1, c, d, x => by simp only [ladd, lsm]; rw [add_lsm m, add_lsm m]
theorem lsm_zero : ∀ (m : Nat) (c : Int), lsm m c (lzero m) = lzero m
  | 0, c => Int.mul_zero c
  | m + 1, c => by simp only [lsm, lzero]; rw [lsm_zero m]
theorem zero_lsm : ∀ (m : Nat) (x : Lam m), lsm m 0 x = lzero m
  | 0, x => Int.zero_mul x
  | m + 1, x => by simp only [lsm, lzero]; rw [zero_lsm m, zero_lsm m]
theorem one_lsm : ∀ (m : Nat) (x : Lam m), lsm m 1 x = x
  | 0, x => Int.one_mul x
  | m + 1, x => by show (lsm m 1 x.1, lsm m 1 x.2) = (x.1, x.2); rw [one_lsm m, one_lsm m]
end Kb
namespace Kb
theorem ladd_left (m : Nat) (x y z : Lam m) : ladd m x (ladd m y z) = ladd m y (ladd m x z) := by
  rw [← ladd_assoc, ladd_comm m x y, ladd_assoc]
theorem ladd4 (m : Nat) (a b c d : Lam m) : ladd m (ladd m a b) (ladd m c d) = ladd m (ladd m a c) (ladd m b d) := by
  rw [ladd_assoc, ladd_assoc, ladd_left m b c d]
theorem wdg_add : ∀ (m : Nat) (v : Vec) (x y : Lam m), wdg m v (ladd m x y) = ladd m (wdg m v x) (wdg m v y)
  | 0, v, x, y => rfl
  | m + 1, v, x, y => by
    show (wdg m v (ladd m x.1 y.1), ladd m (lsm m (v m) (ladd m x.1 y.1)) (lsm m (-1) (wdg m v (ladd m x.2 y.2)))) = (ladd m (wdg m v x.1) (wdg m v y.1), ladd m (ladd m (lsm m (v m) x.1) (lsm m (-1) (wdg m v x.2))) (ladd m (lsm m (v m) y.1) (lsm m (-1) (wdg m v y.2))))
    rw [wdg_add m, wdg_add m, lsm_add, lsm_add, ladd4]
theorem wdg_sm : ∀ (m : Nat) (v : Vec) (c : Int) (x : Lam m), wdg m v (lsm m c x) = lsm m c (wdg m v x)
  | 0, v, c, x => (Int.mul_zero c).symm
  | m + 1, v, c, x => by
    show (wdg m v (lsm m c x.1), ladd m (lsm m (v m) (lsm m c x.1)) (lsm m (-1) (wdg m v (lsm m c x.2)))) = (lsm m c (wdg m v x.1), lsm m c (ladd m (lsm m (v m) x.1) (lsm m (-1) (wdg m v x.2))))
    rw [wdg_sm m, wdg_sm m, lsm_add, lsm_lsm, lsm_lsm, lsm_lsm, lsm_lsm, Int.mul_comm c (v m), Int.mul_comm c (-1)]
theorem wdg_vadd : ∀ (m : Nat) (u v : Vec) (x : Lam m), wdg m (fun i => u i + v i) x = ladd m (wdg m u x) (wdg m v x)
  | 0, u, v, x => rfl
  | m + 1, u, v, x => by
    show (wdg m _ x.1, ladd m (lsm m (u m + v m) x.1) (lsm m (-1) (wdg m _ x.2))) = (ladd m (wdg m u x.1) (wdg m v x.1), ladd m (ladd m (lsm m (u m) x.1) (lsm m (-1) (wdg m u x.2))) (ladd m (lsm m (v m) x.1) (lsm m (-1) (wdg m v x.2))))
    rw [wdg_vadd m, wdg_vadd m, lsm_add, add_lsm, ladd4]
theorem wdg_vsm : ∀ (m : Nat) (c : Int) (v : Vec) (x : Lam m), wdg m (fun i => c * v i) x = lsm m c (wdg m v x)
  | 0, c, v, x => (Int.mul_zero c).symm
  | m + 1, c, v, x => by
    show (wdg m _ x.1, ladd m (lsm m (c * v m) x.1) (lsm m (-1) (wdg m _ x.2))) = (lsm m c (wdg m v x.1), lsm m c (ladd m (lsm m (v m) x.1) (lsm m (-1) (wdg m v x.2))))
    rw [wdg_vsm m, wdg_vsm m, lsm_add, lsm_lsm, lsm_lsm, lsm_lsm, Int.mul_comm c (-1)]
theorem lsm_neg_add (m : Nat) (c : Int) (x : Lam m) : ladd m (lsm m c x) (lsm m (-c) x) = lzero m := by
  rw [← add_lsm, Int.add_right_neg, zero_lsm]
theorem wdg_self : ∀ (m : Nat) (v : Vec) (x : Lam m), wdg m v (wdg m v x) = lzero m
  | 0, v, x => rfl
  | m + 1, v, x => by
    show (wdg m v (wdg m v x.1), ladd m (lsm m (v m) (wdg m v x.1)) (lsm m (-1) (wdg m v (ladd m (lsm m (v m) x.1) (lsm m (-1) (wdg m v x.2)))))) = (lzero m, lzero m)
    rw [wdg_self m, wdg_add, wdg_sm, wdg_sm, wdg_self m, lsm_zero, ladd_zero, lsm_lsm, show (-1 : Int) * v m = -(v m) by omega, lsm_neg_add]
theorem wdg_swap (m : Nat) (u v : Vec) (x : Lam m) : wdg m u (wdg m v x) = lsm m (-1) (wdg m v (wdg m u x)) := by
  have h := wdg_self m (fun i => u i + v i) x
  rw [wdg_vadd, wdg_vadd m u v x, wdg_add, wdg_add, wdg_self, wdg_self, ladd_comm m (lzero m), ladd_zero, ladd_zero] at h
  have h2 : ladd m (ladd m (wdg m u (wdg m v x)) (wdg m v (wdg m u x))) (lsm m (-1) (wdg m v (wdg m u x))) = lsm m (-1) (wdg m v (wdg m u x)) := by rw [h, ladd_comm, ladd_zero]
  rw [ladd_assoc] at h2
  have h3 : ladd m (wdg m v (wdg m u x)) (lsm m (-1) (wdg m v (wdg m u x))) = lzero m := by
    have := lsm_neg_add m 1 (wdg m v (wdg m u x))
    rwa [one_lsm] at this
  rw [h3, ladd_zero] at h2
  exact h2
end Kb
namespace Kb
theorem ltop_add : ∀ (m : Nat) (x y : Lam m), ltop m (ladd m x y) = ltop m x + ltop m y
  | 0, x, y => rfl
  | m + 1, x, y => ltop_add m x.2 y.2
theorem ltop_sm : ∀ (m : Nat) (c : Int) (x : Lam m), ltop m (lsm m c x) = c * ltop m x
  | 0, c, x => rfl
  | m + 1, c, x => ltop_sm m c x.2
theorem ltop_zero : ∀ (m : Nat), ltop m (lzero m) = 0
  | 0 => rfl
  | m + 1 => ltop_zero m
def wl (m : Nat) (vs : List Vec) (x : Lam m) : Lam m := vs.foldl (fun acc v => wdg m v acc) x
theorem wl_cons (m : Nat) (v : Vec) (vs : List Vec) (x : Lam m) : wl m (v :: vs) x = wl m vs (wdg m v x) := rfl
theorem wl_app (m : Nat) (as bs : List Vec) (x : Lam m) : wl m (as ++ bs) x = wl m bs (wl m as x) := List.foldl_append
theorem wl_add (m : Nat) : ∀ (vs : List Vec) (x y : Lam m), wl m vs (ladd m x y) = ladd m (wl m vs x) (wl m vs y)
  | [], x, y => rfl
  | v :: vs, x, y => by rw [wl_cons, wl_cons, wl_cons, wdg_add, wl_add m vs]
theorem wl_sm (m : Nat) (c : Int) : ∀ (vs : List Vec) (x : Lam m), wl m vs (lsm m c x) = lsm m c (wl m vs x)
  | [], x => rfl
  | v :: vs, x => by rw [wl_cons, wl_cons, wdg_sm, wl_sm m c vs]
theorem wl_zero (m : Nat) (vs : List Vec) : wl m vs (lzero m) = lzero m := by
  have := wl_sm m 0 vs (lzero m)
  rw [zero_lsm, zero_lsm] at this
  exact this
theorem wdg_mid (m : Nat) (v : Vec) : ∀ (us : List Vec) (x : Lam m), wdg m v (wl m us (wdg m v x)) = lzero m
  | [], x => wdg_self m v x
  | u :: us, x => by
    rw [wl_cons, wdg_swap, wl_sm, wdg_sm, wdg_mid m v us, lsm_zero]
/-- the determinant of a list of vectors -/
def W (m : Nat) (vs : List Vec) : Int := ltop m (wl m vs (lone m))
theorem W_two (m : Nat) (as bs cs : List Vec) (v : Vec) : W m (as ++ v :: (bs ++ v :: cs)) = 0 := by
  unfold W
  rw [wl_app, wl_cons, wl_app, wl_cons, wdg_mid, wl_zero, ltop_zero]
theorem W_lin (m : Nat) (as bs : List Vec) (c d : Int) (u v : Vec) : W m (as ++ (fun i => c * u i + d * v i) :: bs) = c * W m (as ++ u :: bs) + d * W m (as ++ v :: bs) := by
  unfold W
  rw [wl_app, wl_app, wl_app, wl_cons, wl_cons, wl_cons, wdg_vadd m (fun i => c * u i) (fun i => d * v i), wdg_vsm, wdg_vsm, wl_add, wl_sm, wl_sm, ltop_add, ltop_sm, ltop_sm]
theorem set_split {α : Type} {l : List α} {k : Nat} (h : k < l.length) (v : α) : l.set k v = l.take k ++ v :: l.drop (k + 1) := List.set_eq_take_append_cons_drop.trans (if_pos h)
theorem W_set_lin (m : Nat) {b : List Vec} {k : Nat} (h : k < b.length) (c d : Int) (u v : Vec) : W m (b.set k fun i => c * u i + d * v i) = c * W m (b.set k u) + d * W m (b.set k v) := by
  rw [set_split h, set_split h, set_split h, W_lin]
/-- two slots alike -/
theorem W_rep (m : Nat) {b : List Vec} {i j : Nat} (hij : i < j) (hj : j < b.length) (e : b[i]'(by omega) = b[j]) : W m b = 0 := by
  have h1 : b = b.take i ++ b[i]'(by omega) :: b.drop (i + 1) := by rw [← List.drop_eq_getElem_cons, List.take_append_drop]
  have hj2 : j - (i + 1) < (b.drop (i + 1)).length := by rw [List.length_drop]; omega
  have h2 : b.drop (i + 1) = (b.drop (i + 1)).take (j - (i + 1)) ++ (b.drop (i + 1))[j - (i + 1)] :: (b.drop (i + 1)).drop (j - (i + 1) + 1) := by rw [← List.drop_eq_getElem_cons, List.take_append_drop]
  have h3 : (b.drop (i + 1))[j - (i + 1)] = b[i]'(by omega) := by
    rw [List.getElem_drop, e]
    congr 1
    omega
  rw [h3] at h2
  rw [h2] at h1
  rw [h1]
  exact W_two m _ _ _ _
end Kb
namespace Kb
theorem wdg_ext : ∀ (m : Nat) (u v : Vec) (x : Lam m), (∀ i, i < m → u i = v i) → wdg m u x = wdg m v x
  | 0, u, v, x, _ => rfl
  | m + 1, u, v, x, h => by
    show (wdg m u x.1, ladd m (lsm m (u m) x.1) (lsm m (-1) (wdg m u x.2))) = (wdg m v x.1, ladd m (lsm m (v m) x.1) (lsm m (-1) (wdg m v x.2)))
    rw [wdg_ext m u v x.1 fun i hi => h i (by omega), wdg_ext m u v x.2 fun i hi => h i (by omega), h m (by omega)]
theorem W_set_ext (m : Nat) {b : List Vec} {k : Nat} (hk : k < b.length) {u v : Vec} (h : ∀ i, i < m → u i = v i) : W m (b.set k u) = W m (b.set k v) := by
  rw [set_split hk, set_split hk]
  unfold W
  rw [wl_app, wl_app, wl_cons, wl_cons, wdg_ext m u v _ h]
def vsum (l : List (Int × Vec)) : Vec := fun i => (l.map fun p => p.1 * p.2 i).sum
theorem W_set_sum (m : Nat) {b : List Vec} {k : Nat} (hk : k < b.length) : ∀ l : List (Int × Vec), W m (b.set k (vsum l)) = (l.map fun p => p.1 * W m (b.set k p.2)).sum
  | [] => by
    have h := W_set_lin m hk 0 0 (vsum []) (vsum [])
    have e : W m (b.set k fun i => 0 * vsum [] i + 0 * vsum [] i) = W m (b.set k (vsum [])) := W_set_ext m hk fun i _ => by simp [vsum]
    rw [e] at h
    rw [h]
    simp
  | p :: l => by
    have e : W m (b.set k (vsum (p :: l))) = W m (b.set k fun i => p.1 * p.2 i + 1 * vsum l i) := W_set_ext m hk fun i _ => by simp [vsum]
    rw [e, W_set_lin m hk, W_set_sum m hk l, List.map_cons, List.sum_cons]
    omega
theorem sum_zero {α : Type} (l : List α) (f : α → Int) (h : ∀ x ∈ l, f x = 0) : (l.map f).sum = 0 := by
  induction l with
  | nil => rfl
  | cons x l ih =>
    rw [List.map_cons, List.sum_cons, h x List.mem_cons_self, ih fun y hy => h y (List.mem_cons_of_mem _ hy)]
    rfl
theorem sum_one {n k : Nat} (hk : k < n) (f : Nat → Int) (h : ∀ i, i < n → i ≠ k → f i = 0) : ((List.range n).map f).sum = f k := by
  induction n with
  | zero => omega
  | succ n ih =>
    rw [List.range_succ, List.map_append, List.sum_append]
    rcases Nat.lt_or_ge k n with z | z
    · rw [ih z fun i hi => h i (by omega)]
      simp [h n (by omega) (by omega)]
    · have : k = n := by omega
      subst this
      rw [sum_zero _ f fun i hi => h i (by have := List.mem_range.mp hi; omega) (by have := List.mem_range.mp hi; omega)]
      simp
theorem sum_two {n k r : Nat} (hk : k < n) (hr : r < n) (hkr : k ≠ r) (f : Nat → Int) (h : ∀ i, i < n → i ≠ k → i ≠ r → f i = 0) : ((List.range n).map f).sum = f k + f r := by
  have e : ((List.range n).map f).sum = ((List.range n).map fun i => if i = k then f k else 0).sum + ((List.range n).map fun i => if i = k then 0 else f i).sum := by
    induction (List.range n) with
    | nil => rfl
    | cons x l ih =>
      simp only [List.map_cons, List.sum_cons, ih]
      by_cases z : x = k
      · subst z; simp; omega
      · simp [z]; omega
  rw [e, sum_one hk (fun i => if i = k then f k else 0) (fun i _ hi => if_neg hi), sum_one hr (fun i => if i = k then 0 else f i) (fun i hi h2 => by
    by_cases z : i = k
    · rw [if_pos z]
    · rw [if_neg z]; exact h i hi z h2), if_pos rfl, if_neg fun z => hkr z.symm]
end Kb
namespace Kb
/-- b is a basis: every vector by its coordinates -/
structure Cr (m : Nat) (b : List Vec) : Prop where
  len : b.length = m
  cr : ∀ (v : Vec) (i : Nat), i < m → W m b * v i = vsum ((List.range m).map fun k => (W m (b.set k v), b.getD k fun _ => 0)) i
theorem Cr.W_set {m : Nat} {b : List Vec} (C : Cr m b) {b2 : List Vec} {r : Nat} (hr : r < b2.length) (v : Vec) : W m b * W m (b2.set r v) = ((List.range m).map fun k => W m (b.set k v) * W m (b2.set r (b.getD k fun _ => 0))).sum := by
  have h := W_set_sum m hr ((List.range m).map fun k => (W m (b.set k v), b.getD k fun _ => 0))
  rw [List.map_map] at h
  have h2 : W m (b2.set r (vsum ((List.range m).map fun k => (W m (b.set k v), b.getD k fun _ => 0)))) = W m (b2.set r fun i => W m b * v i + 0 * v i) := W_set_ext m hr fun i hi => by
    rw [← C.cr v i hi]
    omega
  rw [h2, W_set_lin m hr] at h
  have e : W m b * W m (b2.set r v) = W m b * W m (b2.set r v) + 0 * W m (b2.set r v) := by omega
  rw [e, h]
  rfl
theorem getD_at {b : List Vec} {k : Nat} (h : k < b.length) (d : Vec) : b.getD k d = b[k] := by
  rw [List.getD_eq_getElem?_getD, List.getElem?_eq_getElem h]
  rfl
theorem W_same (m : Nat) {b : List Vec} {i j : Nat} (hij : i ≠ j) (hi : i < b.length) (hj : j < b.length) (e : b[i] = b[j]) : W m b = 0 := by
  rcases Nat.lt_or_ge i j with z | z
  · exact W_rep m z hj e
  · exact W_rep m (i := j) (j := i) (by omega) hi e.symm
/-- two slots set -/
theorem W_set2_same (m : Nat) {b : List Vec} {k r : Nat} (hkr : k ≠ r) (hk : k < b.length) (hr : r < b.length) (v : Vec) : W m ((b.set k v).set r v) = 0 := by
  refine W_same m hkr (by simpa using hk) (by simpa using hr) ?_
  rw [List.getElem_set_self, List.getElem_set_ne (by omega), List.getElem_set_self]
theorem W_set2_swap (m : Nat) {b : List Vec} {k r : Nat} (hkr : k ≠ r) (hk : k < b.length) (hr : r < b.length) (u w : Vec) : W m ((b.set k u).set r w) = -W m ((b.set k w).set r u) := by
  have hk2 : ∀ v : Vec, k < (b.set r v).length := fun v => by simpa using hk
  have hr2 : ∀ v : Vec, r < (b.set k v).length := fun v => by simpa using hr
  have h := W_set2_same m hkr hk hr fun i => 1 * u i + 1 * w i
  rw [W_set_lin m (hr2 _), List.set_comm _ _ hkr, List.set_comm _ _ hkr, W_set_lin m (hk2 _), W_set_lin m (hk2 _), ← List.set_comm _ _ hkr, ← List.set_comm _ _ hkr, ← List.set_comm _ _ hkr, ← List.set_comm _ _ hkr] at h
  have h1 := W_set2_same m hkr hk hr u
  have h2 := W_set2_same m hkr hk hr w
  omega
theorem set_own {b : List Vec} {k : Nat} (h : k < b.length) (d : Vec) : b.set k (b.getD k d) = b := by
  rw [getD_at h]
  exact List.set_getElem_self h
end Kb
namespace Kb
def sm (n : Nat) (f : Nat → Int) : Int := ((List.range n).map f).sum
theorem sm_zero (f : Nat → Int) : sm 0 f = 0 := rfl
theorem sm_succ (n : Nat) (f : Nat → Int) : sm (n + 1) f = sm n f + f n := by
  unfold sm
  rw [List.range_succ, List.map_append, List.sum_append]
  simp
theorem sm_congr {n : Nat} {f g : Nat → Int} (h : ∀ k, k < n → f k = g k) : sm n f = sm n g := by
  induction n with
  | zero => rfl
  | succ n ih => rw [sm_succ, sm_succ, ih fun k hk => h k (by omega), h n (by omega)]
theorem sm_add (n : Nat) (f g : Nat → Int) : sm n (fun k => f k + g k) = sm n f + sm n g := by
  induction n with
  | zero => rfl
  | succ n ih => rw [sm_succ, sm_succ, sm_succ, ih]; omega
theorem sm_mul (n : Nat) (c : Int) (f : Nat → Int) : sm n (fun k => c * f k) = c * sm n f := by
  induction n with
  | zero => simp [sm_zero]
  | succ n ih => rw [sm_succ, sm_succ, ih, Int.mul_add]
theorem sm_muld (n : Nat) (c : Int) (f : Nat → Int) : sm n (fun k => f k * c) = sm n f * c := by
  rw [Int.mul_comm, ← sm_mul]
  exact sm_congr fun k _ => Int.mul_comm _ _
theorem sm_sub (n : Nat) (f g : Nat → Int) : sm n (fun k => f k - g k) = sm n f - sm n g := by
  induction n with
  | zero => rfl
  | succ n ih => rw [sm_succ, sm_succ, sm_succ, ih]; omega
theorem sm_none {n : Nat} {f : Nat → Int} (h : ∀ k, k < n → f k = 0) : sm n f = 0 := by
  induction n with
  | zero => rfl
  | succ n ih => rw [sm_succ, ih fun k hk => h k (by omega), h n (by omega)]; rfl
theorem sm_one {n r : Nat} (hr : r < n) {f : Nat → Int} (h : ∀ k, k < n → k ≠ r → f k = 0) : sm n f = f r := sum_one hr f h
theorem sm_two {n k r : Nat} (hk : k < n) (hr : r < n) (hkr : k ≠ r) {f : Nat → Int} (h : ∀ i, i < n → i ≠ k → i ≠ r → f i = 0) : sm n f = f k + f r := sum_two hk hr hkr f h
theorem sm_pick {n r : Nat} (hr : r < n) (f : Nat → Int) : sm n f = sm n (fun k => if k = r then 0 else f k) + f r := by
  have h : sm n f = sm n (fun k => (if k = r then 0 else f k) + (if k = r then f r else 0)) := sm_congr fun k _ => by
    by_cases z : k = r
    · subst z; simp
    · simp [z]
  rw [h, sm_add, sm_one hr (f := fun k => if k = r then f r else 0) fun k _ z => if_neg z, if_pos rfl]
theorem sm_nonneg {n : Nat} {f : Nat → Int} (h : ∀ k, k < n → 0 ≤ f k) : 0 ≤ sm n f := by
  induction n with
  | zero => exact Int.le_refl 0
  | succ n ih =>
    rw [sm_succ]
    have h1 := ih fun k hk => h k (by omega)
    have h2 := h n (by omega)
    omega
theorem sm_le {n : Nat} {f g : Nat → Int} (h : ∀ k, k < n → f k ≤ g k) : sm n f ≤ sm n g := by
  induction n with
  | zero => exact Int.le_refl 0
  | succ n ih =>
    rw [sm_succ, sm_succ]
    have h1 := ih fun k hk => h k (by omega)
    have h2 := h n (by omega)
    omega
theorem sm_split (a b : Nat) (f : Nat → Int) : sm (a + b) f = sm a f + sm b fun k => f (a + k) := by
  induction b with
  | zero => rw [sm_zero]; simp
  | succ b ih => rw [← Nat.add_assoc, sm_succ, sm_succ, ih]; omega
theorem sm_swap (a b : Nat) (f : Nat → Nat → Int) : sm a (fun i => sm b fun j => f i j) = sm b fun j => sm a fun i => f i j := by
  induction a with
  | zero => simp only [sm_zero]; exact (sm_none fun _ _ => rfl).symm
  | succ a ih =>
    rw [sm_succ, ih, ← sm_add]
    exact sm_congr fun j _ => (sm_succ a fun i => f i j).symm
/-! the coordinates -/
abbrev dv : Vec := fun _ => 0
theorem Cr.at {m : Nat} {b : List Vec} (C : Cr m b) (v : Vec) {i : Nat} (hi : i < m) : W m b * v i = sm m fun k => W m (b.set k v) * b.getD k dv i := by
  rw [C.cr v i hi]
  unfold vsum sm
  rw [List.map_map]
  rfl
theorem Cr.set_ {m : Nat} {b : List Vec} (C : Cr m b) {b2 : List Vec} {r : Nat} (hr : r < b2.length) (v : Vec) : W m b * W m (b2.set r v) = sm m fun k => W m (b.set k v) * W m (b2.set r (b.getD k dv)) := C.W_set hr v
section
variable {m : Nat} {b : List Vec} {r : Nat} {v : Vec}
/-- the row that leaves stays -/
theorem set_row (u : Vec) : W m ((b.set r v).set r u) = W m (b.set r u) := by rw [List.set_set]
theorem getD_set_ne {k : Nat} (h : k ≠ r) : (b.set r v).getD k dv = b.getD k dv := by
  rw [List.getD_eq_getElem?_getD, List.getD_eq_getElem?_getD, List.getElem?_set_ne (Ne.symm h)]
theorem getD_set_self (h : r < b.length) : (b.set r v).getD r dv = v := by
  rw [List.getD_eq_getElem?_getD, List.getElem?_set, if_pos rfl, if_pos h]
  rfl
/-- the exchange -/
theorem Cr.exch (C : Cr m b) (hr : r < m) {k : Nat} (hk : k < m) (hkr : k ≠ r) (u : Vec) : W m b * W m ((b.set r v).set k u) = W m (b.set k u) * W m (b.set r v) - W m (b.set r u) * W m (b.set k v) := by
  have hl := C.len
  have hk2 : k < (b.set r v).length := by rw [List.length_set]; omega
  rw [C.set_ hk2 u, sm_two hk hr hkr fun i hi h1 h2 => ?_]
  · have e1 : (b.set r v).set k (b.getD k dv) = b.set r v := by
      rw [← getD_set_ne (b := b) (v := v) hkr]
      exact set_own hk2 _
    have e2 : W m ((b.set r v).set k (b.getD r dv)) = -W m (b.set k v) := by
      rw [List.set_comm _ _ (Ne.symm hkr), W_set2_swap m hkr (by omega) (by omega), List.set_comm _ _ hkr, set_own (b := b) (by omega) dv]
    rw [e1, e2, Int.mul_neg]
    omega
  · have e : W m ((b.set r v).set k (b.getD i dv)) = 0 := by
      refine W_same m (i := k) (j := i) (Ne.symm h1) (by simpa using hk2) (by simp; omega) ?_
      rw [List.getElem_set_self, List.getElem_set_ne (Ne.symm h1), List.getElem_set_ne (Ne.symm h2)]
      exact getD_at (by omega) dv
    rw [e, Int.mul_zero]
theorem Cr.step (C : Cr m b) (hr : r < m) (hd : W m b ≠ 0) : Cr m (b.set r v) := by
  have hl := C.len
  refine ⟨by rw [List.length_set]; exact hl, fun u i hi => ?_⟩
  have key : W m (b.set r v) * u i = sm m fun k => W m ((b.set r v).set k u) * (b.set r v).getD k dv i := by
    apply Int.eq_of_mul_eq_mul_left hd
    have h1 := C.at u hi
    have h2 := C.at v hi
    rw [sm_pick hr] at h1 h2
    rw [sm_pick hr, getD_set_self (by omega), set_row, Int.mul_add, ← sm_mul]
    have e : sm m (fun k => W m b * if k = r then 0 else W m ((b.set r v).set k u) * (b.set r v).getD k dv i) = W m (b.set r v) * sm m (fun k => if k = r then 0 else W m (b.set k u) * b.getD k dv i) - W m (b.set r u) * sm m (fun k => if k = r then 0 else W m (b.set k v) * b.getD k dv i) := by
      rw [← sm_mul, ← sm_mul, ← sm_sub]
      refine sm_congr fun k hk => ?_
      by_cases z : k = r
      · rw [if_pos z, if_pos z, if_pos z]; omega
      · rw [if_neg z, if_neg z, if_neg z, ← Int.mul_assoc, C.exch hr hk z, getD_set_ne z]
        grind
    rw [e]
    grind
  rw [key]
  unfold vsum sm
  rw [List.map_map]
  rfl
end
end Kb
namespace Kb
/-! the tables of a problem -/
def ev1 (i : Nat) : Vec := fun j => if j = i then 1 else 0
structure Pb where
  m : Nat
  nu : Nat
  a : Nat → Vec
  unit : ∀ i, i ≤ m → ∀ j, j < m + 2 → a (nu + i) j = ev1 i j
  flat : ∀ j, j < nu + m → a j (m + 1) = -a j m
/-- names in the rows and columns -/
structure Ns where
  bas : List Nat
  cols : List Nat
def Pb.bt (P : Pb) (s : Ns) : List Vec := s.bas.map P.a ++ [ev1 (P.m + 1)]
def Pb.D (P : Pb) (s : Ns) : Int := W (P.m + 2) (P.bt s)
def Pb.T (P : Pb) (s : Ns) (k x : Nat) : Int := W (P.m + 2) ((P.bt s).set k (P.a x))
structure Pb.Ok (P : Pb) (s : Ns) : Prop where
  bl : s.bas.length = P.m + 1
  cl : s.cols.length = P.nu
  all : ∀ x, x < P.nu + P.m + 1 → x ∈ s.bas ∨ x ∈ s.cols
  bn : ∀ x ∈ s.bas, x < P.nu + P.m + 1
  cn : ∀ x ∈ s.cols, x < P.nu + P.m + 1
  cr : Cr (P.m + 2) (P.bt s)
  pos : 0 < P.D s
section
variable {P : Pb} {s : Ns}
theorem Pb.Ok.btl (O : P.Ok s) : (P.bt s).length = P.m + 2 := O.cr.len
theorem bt_at {k x : Nat} (h : s.bas[k]? = some x) : (P.bt s)[k]? = some (P.a x) := by
  have hk := (List.getElem?_eq_some_iff.mp h).1
  unfold Pb.bt
  rw [List.getElem?_append_left (by simpa using hk), List.getElem?_map, h]
  rfl
theorem bt_set (k x : Nat) (h : k < s.bas.length) (c : List Nat) : P.bt ⟨s.bas.set k x, c⟩ = (P.bt s).set k (P.a x) := by
  unfold Pb.bt
  rw [List.map_set, List.set_append_left _ _ (by simpa using h)]
theorem set_at_self {b : List Vec} {k : Nat} {v : Vec} (h : b[k]? = some v) : b.set k v = b := by
  obtain ⟨h1, h2⟩ := List.getElem?_eq_some_iff.mp h
  rw [← h2]
  exact List.set_getElem_self h1
theorem W_set_at (m : Nat) {b : List Vec} {k i : Nat} {v : Vec} (hk : k < b.length) (hi : b[i]? = some v) (hki : k ≠ i) : W m (b.set k v) = 0 := by
  obtain ⟨h1, h2⟩ := List.getElem?_eq_some_iff.mp hi
  refine W_same m (i := k) (j := i) hki (by simpa using hk) (by simpa using h1) ?_
  rw [List.getElem_set_self, List.getElem_set_ne hki, h2]
theorem T_own {k x : Nat} (h : s.bas[k]? = some x) : P.T s k x = P.D s := by
  unfold Pb.T Pb.D
  rw [set_at_self (bt_at h)]
theorem T_other (O : P.Ok s) {k i x : Nat} (hk : k < P.m + 2) (h : s.bas[i]? = some x) (hki : k ≠ i) : P.T s k x = 0 := W_set_at _ (by rw [O.btl]; exact hk) (bt_at h) hki
theorem bt_last (O : P.Ok s) : (P.bt s)[P.m + 1]? = some (ev1 (P.m + 1)) := by
  unfold Pb.bt
  rw [List.getElem?_append_right (by rw [List.length_map, O.bl]; exact Nat.le_refl _), List.length_map, O.bl, Nat.sub_self]
  rfl
/-- the names of the rows are not alike -/
theorem Pb.Ok.nd (O : P.Ok s) {i j x : Nat} (hi : s.bas[i]? = some x) (hj : s.bas[j]? = some x) : i = j := by
  refine Classical.byContradiction fun h => ?_
  have h1 : P.D s = 0 := by
    have := T_other O (k := i) (by have := (List.getElem?_eq_some_iff.mp hi).1; have := O.bl; omega) hj h
    rwa [T_own hi] at this
  have := O.pos
  omega
/-- a name in a row has no goal -/
theorem G_bas (O : P.Ok s) {x : Nat} (h : x ∈ s.bas) : P.T s (P.m + 1) x = 0 := by
  obtain ⟨i, hi⟩ := List.getElem?_of_mem h
  refine T_other O (by omega) hi ?_
  have := (List.getElem?_eq_some_iff.mp hi).1
  have := O.bl
  omega
/-- coordinates -/
theorem Pb.Ok.at (O : P.Ok s) (x : Nat) {i : Nat} (hi : i < P.m + 2) : P.D s * P.a x i = sm (P.m + 2) fun k => P.T s k x * (P.bt s).getD k dv i := O.cr.at (P.a x) hi
/-- the exchange of row r and the name x -/
theorem T_exch (O : P.Ok s) {r x : Nat} (hr : r < P.m + 1) {k : Nat} (hk : k < P.m + 2) (hkr : k ≠ r) (y : Nat) (c : List Nat) : P.D s * P.T ⟨s.bas.set r x, c⟩ k y = P.T s k y * P.T s r x - P.T s r y * P.T s k x := by
  have := O.cr.exch (r := r) (v := P.a x) (by omega) hk hkr (P.a y)
  unfold Pb.T
  rw [bt_set r x (by rw [O.bl]; exact hr)]
  exact this
theorem T_exch_r (O : P.Ok s) {r x : Nat} (hr : r < P.m + 1) (y : Nat) (c : List Nat) : P.T ⟨s.bas.set r x, c⟩ r y = P.T s r y := by
  unfold Pb.T
  rw [bt_set r x (by rw [O.bl]; exact hr), List.set_set]
theorem D_exch (O : P.Ok s) {r x : Nat} (hr : r < P.m + 1) (c : List Nat) : P.D ⟨s.bas.set r x, c⟩ = P.T s r x := by
  unfold Pb.T Pb.D
  rw [bt_set r x (by rw [O.bl]; exact hr)]
/-- .. gives a good table -/
def Ns.swap (s : Ns) (r c : Nat) : Ns := ⟨s.bas.set r (s.cols.getD c 0), s.cols.set c (s.bas.getD r 0)⟩
theorem mem_set_self {l : List Nat} {i x : Nat} (h : i < l.length) : x ∈ l.set i x := by
  refine List.mem_iff_getElem.mpr ⟨i, by simpa using h, ?_⟩
  rw [List.getElem_set_self]
theorem mem_set_or {l : List Nat} {i x y : Nat} (h : x ∈ l.set i y) : x ∈ l ∨ x = y := by
  obtain ⟨j, hj⟩ := List.getElem?_of_mem h
  rw [List.getElem?_set] at hj
  split at hj
  · split at hj
    · cases hj; exact .inr rfl
    · cases hj
  · exact .inl (List.mem_of_getElem? hj)
theorem mem_set_keep {l : List Nat} {i x y : Nat} (hx : x ∈ l) (h : l[i]? ≠ some x) : x ∈ l.set i y := by
  obtain ⟨j, hj⟩ := List.getElem?_of_mem hx
  have hne : i ≠ j := fun e => h (by rw [e]; exact hj)
  refine List.mem_of_getElem? (i := j) ?_
  rw [List.getElem?_set_ne hne]
  exact hj
theorem Ok_swap (O : P.Ok s) {r c x z : Nat} (hx : s.cols[c]? = some x) (hz : s.bas[r]? = some z) (hp : 0 < P.T s r x) : P.Ok (s.swap r c) := by
  have hr : r < P.m + 1 := by have := (List.getElem?_eq_some_iff.mp hz).1; rw [O.bl] at this; exact this
  have hc : c < s.cols.length := (List.getElem?_eq_some_iff.mp hx).1
  have ex : s.cols.getD c 0 = x := by rw [List.getD_eq_getElem?_getD, hx]; rfl
  have ez : s.bas.getD r 0 = z := by rw [List.getD_eq_getElem?_getD, hz]; rfl
  have hb : r < s.bas.length := by rw [O.bl]; exact hr
  unfold Ns.swap
  rw [ex, ez]
  refine ⟨by show (s.bas.set r x).length = _; rw [List.length_set]; exact O.bl, by show (s.cols.set c z).length = _; rw [List.length_set]; exact O.cl, fun y hy => ?_, fun y hy => ?_, fun y hy => ?_, ?_, ?_⟩
  · show y ∈ s.bas.set r x ∨ y ∈ s.cols.set c z
    by_cases e1 : y = x
    · exact .inl (e1 ▸ mem_set_self hb)
    by_cases e2 : y = z
    · exact .inr (e2 ▸ mem_set_self hc)
    rcases O.all y hy with h | h
    · exact .inl (mem_set_keep h (by rw [hz]; intro e; cases e; exact e2 rfl))
    · exact .inr (mem_set_keep h (by rw [hx]; intro e; cases e; exact e1 rfl))
  · rcases mem_set_or (show y ∈ s.bas.set r x from hy) with h | h
    · exact O.bn y h
    · rw [h]; exact O.cn x (List.mem_of_getElem? hx)
  · rcases mem_set_or (show y ∈ s.cols.set c z from hy) with h | h
    · exact O.cn y h
    · rw [h]; exact O.bn z (List.mem_of_getElem? hz)
  · rw [bt_set r x hb]
    exact O.cr.step (by omega) (by have := O.pos; unfold Pb.D at this; omega)
  · rw [D_exch O hr]
    exact hp
end
end Kb
namespace Kb
section
variable {P : Pb} {s s1 s2 : Ns}
def Pb.First (P : Pb) (s : Ns) : Prop := s.bas[P.m]? = some (P.nu + P.m)
theorem a_unit (i : Nat) (hi : i ≤ P.m) {j : Nat} (hj : j < P.m + 2) : P.a (P.nu + i) j = ev1 i j := P.unit i hi j hj
/-- while the last row stands, the goal is its opposite -/
theorem T_flat (O : P.Ok s) (F : P.First s) (y : Nat) : P.T s P.m y + P.T s (P.m + 1) y = P.D s * (P.a y P.m + P.a y (P.m + 1)) := by
  rw [Int.mul_add, O.at y (i := P.m) (by omega), O.at y (i := P.m + 1) (by omega), ← sm_add]
  rw [sm_two (n := P.m + 2) (k := P.m) (r := P.m + 1) (by omega) (by omega) (by omega) fun i hi h1 h2 => ?_]
  · have e1 : (P.bt s).getD P.m dv = P.a (P.nu + P.m) := by rw [List.getD_eq_getElem?_getD, bt_at F]; rfl
    have e2 : (P.bt s).getD (P.m + 1) dv = ev1 (P.m + 1) := by rw [List.getD_eq_getElem?_getD, bt_last O]; rfl
    rw [e1, e2, a_unit P.m (Nat.le_refl _) (by omega), a_unit P.m (Nat.le_refl _) (by omega)]
    simp [ev1]
  · have hi2 : i < s.bas.length := by rw [O.bl]; omega
    have e0 : s.bas[i]? = some s.bas[i] := List.getElem?_eq_getElem hi2
    have e1 : (P.bt s).getD i dv = P.a s.bas[i] := by rw [List.getD_eq_getElem?_getD, bt_at e0]; rfl
    have h3 := O.bn _ (List.mem_of_getElem? e0)
    have h4 : s.bas[i] ≠ P.nu + P.m := fun e => h1 (O.nd e0 (by rw [e]; exact F))
    rw [e1, P.flat _ (by omega), Int.mul_neg]
    omega
theorem T_flat0 (O : P.Ok s) (F : P.First s) {y : Nat} (h : y < P.nu + P.m) : P.T s (P.m + 1) y = -P.T s P.m y := by
  have := T_flat O F y
  rw [P.flat y h] at this
  have e : P.D s * (P.a y P.m + -P.a y P.m) = 0 := by rw [Int.add_right_neg, Int.mul_zero]
  omega
/-- a column that enters, a row that leaves -/
structure Pb.Ent (P : Pb) (s : Ns) (c x : Nat) : Prop where
  at_ : s.cols[c]? = some x
  neg : P.T s (P.m + 1) x < 0
  least : ∀ c' x', s.cols[c']? = some x' → P.T s (P.m + 1) x' < 0 → x < x' ∨ (x = x' ∧ c ≤ c')
structure Pb.Lea (P : Pb) (s : Ns) (x r z : Nat) : Prop where
  lt : r < P.m
  at_ : s.bas[r]? = some z
  pos : 0 < P.T s r x
  least : ∀ k z', k < P.m → s.bas[k]? = some z' → 0 < P.T s k x → z ≤ z'
theorem Ent.nbas (O : P.Ok s) {c x : Nat} (e : P.Ent s c x) : x ∉ s.bas := fun h => by
  have := G_bas O h
  have := e.neg
  omega
theorem Ent.lt (O : P.Ok s) (F : P.First s) {c x : Nat} (e : P.Ent s c x) : x < P.nu + P.m := by
  have h1 := O.cn x (List.mem_of_getElem? e.at_)
  have h2 : x ≠ P.nu + P.m := fun z => Ent.nbas O e (by rw [z]; exact List.mem_of_getElem? F)
  omega
/-- Bland: a name that enters here does not leave there, where no greater name moved -/
theorem bland (O1 : P.Ok s1) (F1 : P.First s1) (O2 : P.Ok s2) (F2 : P.First s2) {c1 c2 q x r : Nat} (e1 : P.Ent s1 c1 q) (e2 : P.Ent s2 c2 x) (l2 : P.Lea s2 x r q) (hx : x < q) (hk : ∀ y, q < y → y ∈ s2.bas → y ∈ s1.bas) : False := by
  have key : P.D s2 * P.T s1 (P.m + 1) x = sm (P.m + 2) fun k => P.T s2 k x * W (P.m + 2) ((P.bt s1).set (P.m + 1) ((P.bt s2).getD k dv)) := O2.cr.set_ (b2 := P.bt s1) (r := P.m + 1) (by rw [O1.btl]; omega) (P.a x)
  have nonneg : ∀ y, y < q → y < P.nu + P.m + 1 → 0 ≤ P.T s1 (P.m + 1) y := fun y hy hn => by
    rcases O1.all y hn with h | h
    · rw [G_bas O1 h]; exact Int.le_refl 0
    · obtain ⟨c, hc⟩ := List.getElem?_of_mem h
      refine Int.not_lt.mp fun z => ?_
      rcases e1.least c y hc z with h | h <;> omega
  have hxn := O2.cn x (List.mem_of_getElem? e2.at_)
  have hl : 0 ≤ P.D s2 * P.T s1 (P.m + 1) x := Int.mul_nonneg (Int.le_of_lt O2.pos) (nonneg x hx hxn)
  rw [key, sm_succ] at hl
  have e3 : (P.bt s2).getD (P.m + 1) dv = ev1 (P.m + 1) := by rw [List.getD_eq_getElem?_getD, bt_last O2]; rfl
  have e4 : W (P.m + 2) ((P.bt s1).set (P.m + 1) (ev1 (P.m + 1))) = P.D s1 := by
    rw [set_at_self (bt_last O1)]
    rfl
  rw [e3, e4] at hl
  have h5 : P.T s2 (P.m + 1) x * P.D s1 < 0 := Int.mul_neg_of_neg_of_pos e2.neg O1.pos
  have h6 : sm (P.m + 1) (fun k => P.T s2 k x * W (P.m + 2) ((P.bt s1).set (P.m + 1) ((P.bt s2).getD k dv))) ≤ sm (P.m + 1) (fun _ => 0) := sm_le fun k hkm => by
    have hi2 : k < s2.bas.length := by rw [O2.bl]; omega
    have e0 : s2.bas[k]? = some s2.bas[k] := List.getElem?_eq_getElem hi2
    have e5 : (P.bt s2).getD k dv = P.a s2.bas[k] := by rw [List.getD_eq_getElem?_getD, bt_at e0]; rfl
    rw [e5]
    show P.T s2 k x * P.T s1 (P.m + 1) s2.bas[k] ≤ 0
    rcases Nat.lt_trichotomy s2.bas[k] q with h | h | h
    · have hn := nonneg _ h (O2.bn _ (List.mem_of_getElem? e0))
      by_cases km : k = P.m
      · have e6 : s2.bas[k] = P.nu + P.m := by
          have := F2
          unfold Pb.First at this
          rw [← km, e0] at this
          rw [Option.some.inj this, km]
        rw [e6, G_bas O1 (List.mem_of_getElem? F1), Int.mul_zero]
        exact Int.le_refl 0
      · have : ¬ 0 < P.T s2 k x := fun z => by have := l2.least k _ (by omega) e0 z; omega
        exact Int.mul_nonpos_of_nonpos_of_nonneg (by omega) hn
    · have hkr : k = r := O2.nd e0 (by rw [h]; exact l2.at_)
      rw [h, hkr]
      exact Int.le_of_lt (Int.mul_neg_of_pos_of_neg l2.pos e1.neg)
    · rw [G_bas O1 (hk _ h (List.mem_of_getElem? e0)), Int.mul_zero]
      exact Int.le_refl 0
  rw [sm_none fun _ _ => rfl] at h6
  omega
/-- a move within the first rows -/
structure Pb.Mv (P : Pb) (s : Ns) (x z : Nat) (s' : Ns) : Prop where
  ok : P.Ok s
  fi : P.First s
  go : ∃ c r, P.Ent s c x ∧ P.Lea s x r z ∧ s' = s.swap r c
theorem swap_bas {c x r z : Nat} (e : P.Ent s c x) (l : P.Lea s x r z) : s.swap r c = ⟨s.bas.set r x, s.cols.set c z⟩ := by
  unfold Ns.swap
  rw [List.getD_eq_getElem?_getD, List.getD_eq_getElem?_getD, e.at_, l.at_]
  rfl
theorem Mv.bas {x z : Nat} {s' : Ns} (v : P.Mv s x z s') (y : Nat) : y ∈ s'.bas ↔ y = x ∨ (y ≠ z ∧ y ∈ s.bas) := by
  obtain ⟨c, r, e, l, rfl⟩ := v.go
  rw [swap_bas e l]
  show y ∈ s.bas.set r x ↔ _
  have hr : r < s.bas.length := (List.getElem?_eq_some_iff.mp l.at_).1
  constructor
  · intro h
    obtain ⟨j, hj⟩ := List.getElem?_of_mem h
    rw [List.getElem?_set] at hj
    split at hj
    · cases hj; exact .inl rfl
    · rename_i hne
      refine .inr ⟨fun e => hne ?_, List.mem_of_getElem? hj⟩
      exact v.ok.nd l.at_ (by rw [← e]; exact hj)
  · rintro (h | ⟨h1, h2⟩)
    · rw [h]; exact mem_set_self hr
    · exact mem_set_keep h2 (by rw [l.at_]; intro e; cases e; exact h1 rfl)
theorem Mv.next {x z : Nat} {s' : Ns} (v : P.Mv s x z s') : P.Ok s' ∧ P.First s' := by
  obtain ⟨c, r, e, l, rfl⟩ := v.go
  refine ⟨Ok_swap v.ok e.at_ l.at_ l.pos, ?_⟩
  unfold Pb.First
  rw [swap_bas e l]
  show (s.bas.set r x)[P.m]? = _
  have := l.lt
  rw [List.getElem?_set_ne (by omega)]
  exact v.fi
theorem Mv.xin {x z : Nat} {s' : Ns} (v : P.Mv s x z s') : x ∉ s.bas ∧ z ∈ s.bas ∧ x < P.nu + P.m + 1 ∧ z < P.nu + P.m + 1 := by
  obtain ⟨c, r, e, l, rfl⟩ := v.go
  exact ⟨Ent.nbas v.ok e, List.mem_of_getElem? l.at_, v.ok.cn _ (List.mem_of_getElem? e.at_), v.ok.bn _ (List.mem_of_getElem? l.at_)⟩
/-- a run -/
def Pb.Run (P : Pb) (L : Nat) (f : Nat → Ns) (xs zs : Nat → Nat) : Prop := ∀ i, i < L → P.Mv (f i) (xs i) (zs i) (f (i + 1))
theorem Run.still {L : Nat} {f : Nat → Ns} {xs zs : Nat → Nat} (R : P.Run L f xs zs) (y i : Nat) : ∀ j, i ≤ j → j ≤ L → (∀ k, i ≤ k → k < j → y ≠ xs k ∧ y ≠ zs k) → (y ∈ (f j).bas ↔ y ∈ (f i).bas)
  | 0, h1, h2, _ => by
    have : i = 0 := by omega
    rw [this]
  | j + 1, h1, h2, h => by
    rcases Nat.lt_or_ge j i with z | z
    · have : i = j + 1 := by omega
      rw [this]
    · rw [Mv.bas (R j (by omega)) y, ← Run.still R y i j z (by omega) fun k hk1 hk2 => h k hk1 (by omega)]
      obtain ⟨h3, h4⟩ := h j z (by omega)
      constructor
      · rintro (h5 | h5)
        · exact absurd h5 h3
        · exact h5.2
      · intro h5
        exact .inr ⟨h4, h5⟩
theorem Run.stays {L : Nat} {f : Nat → Ns} {xs zs : Nat → Nat} (R : P.Run L f xs zs) (y i : Nat) (hi : y ∈ (f i).bas) : ∀ j, i ≤ j → j ≤ L → (∀ k, i ≤ k → k < j → y ≠ zs k) → y ∈ (f j).bas
  | 0, h1, h2, _ => by
    have : i = 0 := by omega
    rw [← this]; exact hi
  | j + 1, h1, h2, h => by
    rcases Nat.lt_or_ge j i with z | z
    · have : i = j + 1 := by omega
      rw [← this]; exact hi
    · rw [Mv.bas (R j (by omega)) y]
      exact .inr ⟨h j z (by omega), Run.stays R y i hi j z (by omega) fun k hk1 hk2 => h k hk1 (by omega)⟩
theorem Run.out {L : Nat} {f : Nat → Ns} {xs zs : Nat → Nat} (R : P.Run L f xs zs) (y i : Nat) (hi : y ∉ (f i).bas) : ∀ j, i ≤ j → j ≤ L → (∀ k, i ≤ k → k < j → y ≠ xs k) → y ∉ (f j).bas
  | 0, h1, h2, _ => by
    have : i = 0 := by omega
    rw [← this]; exact hi
  | j + 1, h1, h2, h => by
    rcases Nat.lt_or_ge j i with z | z
    · have : i = j + 1 := by omega
      rw [← this]; exact hi
    · rw [Mv.bas (R j (by omega)) y]
      rintro (h5 | h5)
      · exact h j z (by omega) h5
      · exact Run.out R y i hi j z (by omega) (fun k hk1 hk2 => h k hk1 (by omega)) h5.2
/-- the greatest name moves but once -/
theorem Run.clash {L : Nat} {f : Nat → Ns} {xs zs : Nat → Nat} (R : P.Run L f xs zs) {t : Nat} (hm : ∀ i, i < L → xs i < t + 1 ∧ zs i < t + 1) {i j : Nat} (hi : i < L) (hj : j < L) (h1 : xs i = t) (h2 : zs j = t) : False := by
  have vi := R i hi
  have vj := R j hj
  obtain ⟨c1, r1, e1, l1, _⟩ := vi.go
  obtain ⟨c2, r2, e2, l2, _⟩ := vj.go
  rw [h1] at e1
  rw [h2] at l2
  have hx : xs j < t := by
    have h3 := (hm j hj).1
    have : xs j ≠ t := fun e => by
      have := Mv.xin vj
      rw [e, h2] at this
      exact this.1 this.2.1
    omega
  refine bland vi.ok vi.fi vj.ok vj.fi e1 e2 l2 hx fun y hy hyb => ?_
  have st : ∀ k, 0 ≤ k → k < L → y ≠ xs k ∧ y ≠ zs k := fun k _ hk => by
    have := hm k hk
    omega
  rw [Run.still R y 0 j (Nat.zero_le _) (by omega) fun k h1 h2 => st k h1 (by omega)] at hyb
  rw [Run.still R y 0 i (Nat.zero_le _) (by omega) fun k h1 h2 => st k h1 (by omega)]
  exact hyb
theorem Run.once {L : Nat} {f : Nat → Ns} {xs zs : Nat → Nat} (R : P.Run L f xs zs) {t : Nat} (hm : ∀ i, i < L → xs i < t + 1 ∧ zs i < t + 1) {i j : Nat} (hij : i < j) (hj : j < L) (h1 : xs i = t ∨ zs i = t) (h2 : xs j = t ∨ zs j = t) : False := by
  have hi : i < L := by omega
  rcases h1 with h1 | h1
  · have nz : ∀ k, k < L → t ≠ zs k := fun k hk e => Run.clash R hm hi hk h1 e.symm
    rcases h2 with h2 | h2
    · have a1 : t ∈ (f (i + 1)).bas := (Mv.bas (R i hi) t).mpr (.inl h1.symm)
      have a2 := Run.stays R t (i + 1) a1 j (by omega) (by omega) fun k _ hk => nz k (by omega)
      have a3 := (Mv.xin (R j hj)).1
      rw [h2] at a3
      exact a3 a2
    · exact nz j hj h2.symm
  · have nx : ∀ k, k < L → t ≠ xs k := fun k hk e => Run.clash R hm hk hi e.symm h1
    rcases h2 with h2 | h2
    · exact nx j hj h2.symm
    · have a1 : t ∉ (f (i + 1)).bas := fun h => by
        rcases (Mv.bas (R i hi) t).mp h with h | h
        · exact nx i hi h
        · exact h.1 h1.symm
      have a2 := Run.out R t (i + 1) a1 j (by omega) (by omega) fun k _ hk => nx k (by omega)
      have a3 := (Mv.xin (R j hj)).2.1
      rw [h2] at a3
      exact a2 a3
theorem Run.short : ∀ (t L : Nat) (f : Nat → Ns) (xs zs : Nat → Nat), P.Run L f xs zs → (∀ i, i < L → xs i < t ∧ zs i < t) → L < 2 ^ t
  | 0, L, f, xs, zs, R, hm => by
    rcases Nat.eq_zero_or_pos L with h | h
    · rw [h]; decide
    · have := hm 0 h; omega
  | t + 1, L, f, xs, zs, R, hm => by
    have hp : 2 ^ (t + 1) = 2 ^ t + 2 ^ t := by rw [Nat.pow_succ]; omega
    by_cases h : ∃ i, i < L ∧ (xs i = t ∨ zs i = t)
    · obtain ⟨i, hi, h1⟩ := h
      have q1 := Run.short t i f xs zs (fun k hk => R k (by omega)) fun k hk => by
        have h3 := hm k (by omega)
        have h4 : ¬ (xs k = t ∨ zs k = t) := fun h2 => Run.once R hm hk hi h2 h1
        omega
      have q2 := Run.short t (L - i - 1) (fun k => f (i + 1 + k)) (fun k => xs (i + 1 + k)) (fun k => zs (i + 1 + k)) (fun k hk => R (i + 1 + k) (by omega)) fun k hk => by
        have h3 := hm (i + 1 + k) (by omega)
        have h4 : ¬ (xs (i + 1 + k) = t ∨ zs (i + 1 + k) = t) := fun h2 => Run.once R hm (by omega) (by omega) h1 h2
        show xs (i + 1 + k) < t ∧ zs (i + 1 + k) < t
        omega
      omega
    · have := Run.short t L f xs zs R fun k hk => by
        have h3 := hm k hk
        have h4 : ¬ (xs k = t ∨ zs k = t) := fun h2 => h ⟨k, hk, h2⟩
        omega
      omega
end
end Kb
namespace Kb
section
variable {P : Pb} {s s1 s2 : Ns}
def Pb.Ter (P : Pb) (s : Ns) : Prop := ∀ x ∈ s.cols, 0 ≤ P.T s (P.m + 1) x
/-- behind the last move -/
structure Pb.Sol (P : Pb) (e : Ns) : Prop where
  out : P.nu + P.m ∉ e.bas
  nn : ∀ k, k < P.m + 1 → 0 ≤ P.T e k (P.nu + P.m)
  top : P.T e (P.m + 1) (P.nu + P.m) = P.D e
/-- the way to the end -/
inductive Pb.Pth (P : Pb) : Nat → Ns → Ns → Prop
  | done {s : Ns} : P.Ok s → P.First s → P.Ter s → Pb.Pth P 0 s s
  | sol {s : Ns} : P.Ok s → P.Ter s → P.Sol s → Pb.Pth P 0 s s
  | inn {s e : Ns} {k c x r z : Nat} : P.Ok s → P.First s → P.Ent s c x → P.Lea s x r z → Pb.Pth P k (s.swap r c) e → Pb.Pth P (k + 1) s e
  | out {s e : Ns} {k c x : Nat} : P.Ok s → P.First s → P.Ent s c x → (∀ i, i < P.m → P.T s i x ≤ 0) → Pb.Pth P k (s.swap P.m c) e → Pb.Pth P (k + 1) s e
theorem Pth.ok {k : Nat} {e : Ns} (h : P.Pth k s e) : P.Ok s := by cases h <;> assumption
/-- a least element of the columns -/
theorem ent_ex (h : ¬ P.Ter s) : ∃ c x, P.Ent s c x := by
  have h1 : ∃ n c x, s.cols[c]? = some x ∧ P.T s (P.m + 1) x < 0 ∧ n = x * (s.cols.length + 1) + c := by
    refine Classical.byContradiction fun z => h fun x hx => ?_
    obtain ⟨c, hc⟩ := List.getElem?_of_mem hx
    exact Int.not_lt.mp fun hn => z ⟨_, c, x, hc, hn, rfl⟩
  obtain ⟨n, hn⟩ := h1
  induction n using Nat.strongRecOn with
  | _ n ih =>
    obtain ⟨c, x, h1, h2, h3⟩ := hn
    by_cases z : ∃ c' x', s.cols[c']? = some x' ∧ P.T s (P.m + 1) x' < 0 ∧ x' * (s.cols.length + 1) + c' < n
    · obtain ⟨c', x', g1, g2, g3⟩ := z
      exact ih _ g3 ⟨c', x', g1, g2, rfl⟩
    · refine ⟨c, x, h1, h2, fun c' x' g1 g2 => ?_⟩
      have g3 : ¬ x' * (s.cols.length + 1) + c' < n := fun g3 => z ⟨c', x', g1, g2, g3⟩
      have hc := (List.getElem?_eq_some_iff.mp h1).1
      have hc' := (List.getElem?_eq_some_iff.mp g1).1
      rcases Nat.lt_trichotomy x x' with y | y | y
      · exact .inl y
      · subst y; exact .inr ⟨rfl, by omega⟩
      · exfalso
        have : (x' + 1) * (s.cols.length + 1) ≤ x * (s.cols.length + 1) := Nat.mul_le_mul_right _ y
        rw [Nat.add_mul, Nat.one_mul] at this
        omega
theorem Ent.uniq {c c' x x' : Nat} (h : P.Ent s c x) (h' : P.Ent s c' x') : c = c' ∧ x = x' := by
  have a := h.least c' x' h'.at_ h'.neg
  have b := h'.least c x h.at_ h.neg
  omega
theorem Lea.uniq (O : P.Ok s) {x r r' z z' : Nat} (h : P.Lea s x r z) (h' : P.Lea s x r' z') : r = r' ∧ z = z' := by
  have a := h.least r' z' h'.lt h'.at_ h'.pos
  have b := h'.least r z h.lt h.at_ h.pos
  have e : z = z' := by omega
  exact ⟨O.nd h.at_ (by rw [e]; exact h'.at_), e⟩
theorem lea_ex (O : P.Ok s) {x : Nat} (h : ¬ ∀ k, k < P.m → P.T s k x ≤ 0) : ∃ r z, P.Lea s x r z := by
  have h1 : ∃ z k, k < P.m ∧ s.bas[k]? = some z ∧ 0 < P.T s k x := by
    refine Classical.byContradiction fun q => h fun k hk => ?_
    have hb : k < s.bas.length := by rw [O.bl]; omega
    exact Int.not_lt.mp fun hn => q ⟨_, k, hk, List.getElem?_eq_getElem hb, hn⟩
  obtain ⟨z, hz⟩ := h1
  induction z using Nat.strongRecOn with
  | _ z ih =>
    obtain ⟨k, h1, h2, h3⟩ := hz
    by_cases q : ∃ k' z', k' < P.m ∧ s.bas[k']? = some z' ∧ 0 < P.T s k' x ∧ z' < z
    · obtain ⟨k', z', g1, g2, g3, g4⟩ := q
      exact ih _ g4 ⟨k', g1, g2, g3⟩
    · exact ⟨k, z, h1, h2, h3, fun k' z' g1 g2 g3 => Nat.not_lt.mp fun g4 => q ⟨k', z', g1, g2, g3, g4⟩⟩
/-- the last row leaves: the end -/
theorem sol_swap (O : P.Ok s) (F : P.First s) {c x : Nat} (e : P.Ent s c x) (h : ∀ k, k < P.m → P.T s k x ≤ 0) : P.Ok (s.swap P.m c) ∧ P.Ter (s.swap P.m c) ∧ P.Sol (s.swap P.m c) := by
  have hx : x < P.nu + P.m := Ent.lt O F e
  have f0 := T_flat0 O F hx
  have hp : 0 < P.T s P.m x := by have := e.neg; omega
  have O' := Ok_swap O e.at_ F hp
  have es : s.swap P.m c = ⟨s.bas.set P.m x, s.cols.set c (P.nu + P.m)⟩ := by
    unfold Ns.swap
    rw [List.getD_eq_getElem?_getD, List.getD_eq_getElem?_getD, e.at_, F]
    rfl
  rw [es] at O' ⊢
  have D' : P.D ⟨s.bas.set P.m x, s.cols.set c (P.nu + P.m)⟩ = P.T s P.m x := D_exch O (by omega) _
  have G' : ∀ y, P.T ⟨s.bas.set P.m x, s.cols.set c (P.nu + P.m)⟩ (P.m + 1) y = P.T s P.m x * (P.a y P.m + P.a y (P.m + 1)) := fun y => by
    apply Int.eq_of_mul_eq_mul_left (a := P.D s) (by have := O.pos; omega)
    rw [T_exch O (r := P.m) (x := x) (by omega) (k := P.m + 1) (by omega) (by omega) y, f0]
    have := T_flat O F y
    grind
  have top : P.T ⟨s.bas.set P.m x, s.cols.set c (P.nu + P.m)⟩ (P.m + 1) (P.nu + P.m) = P.D ⟨s.bas.set P.m x, s.cols.set c (P.nu + P.m)⟩ := by
    rw [G', D', a_unit P.m (Nat.le_refl _) (by omega), a_unit P.m (Nat.le_refl _) (by omega)]
    simp [ev1]
  refine ⟨O', fun y hy => ?_, fun z => ?_, fun k hk => ?_, top⟩
  · by_cases q : y = P.nu + P.m
    · rw [q, top]; exact Int.le_of_lt O'.pos
    · have := O'.cn y hy
      rw [G', P.flat y (by omega), Int.add_right_neg, Int.mul_zero]
      exact Int.le_refl 0
  · have := G_bas O' z
    rw [top] at this
    have := O'.pos
    omega
  · by_cases q : k = P.m
    · rw [q, T_exch_r O (by omega), T_own F]
      exact Int.le_of_lt O.pos
    · have h1 : P.D s * P.T ⟨s.bas.set P.m x, s.cols.set c (P.nu + P.m)⟩ k (P.nu + P.m) = P.D s * -P.T s k x := by
        rw [T_exch O (r := P.m) (x := x) (by omega) (k := k) (by omega) q, T_own F, T_other O (by omega) F q, Int.zero_mul, Int.mul_neg]
        omega
      rw [Int.eq_of_mul_eq_mul_left (by have := O.pos; omega) h1]
      have := h k (by omega)
      omega
/-- a way to the end, or many moves -/
theorem way_or (n : Nat) : ∀ s : Ns, P.Ok s → P.First s → (∃ k e, P.Pth k s e) ∨ ∃ f xs zs, f 0 = s ∧ P.Run n f xs zs := by
  induction n with
  | zero => exact fun s O F => .inr ⟨fun _ => s, fun _ => 0, fun _ => 0, rfl, fun i hi => by omega⟩
  | succ n ih =>
    intro s O F
    by_cases t : P.Ter s
    · exact .inl ⟨0, s, .done O F t⟩
    obtain ⟨c, x, e⟩ := ent_ex t
    by_cases q : ∀ k, k < P.m → P.T s k x ≤ 0
    · obtain ⟨h1, h2, h3⟩ := sol_swap O F e q
      exact .inl ⟨1, _, .out O F e q (.sol h1 h2 h3)⟩
    obtain ⟨r, z, l⟩ := lea_ex O q
    have v : P.Mv s x z (s.swap r c) := ⟨O, F, c, r, e, l, rfl⟩
    rcases ih _ (Mv.next v).1 (Mv.next v).2 with ⟨k, w, h⟩ | ⟨f, xs, zs, h0, h⟩
    · exact .inl ⟨k + 1, w, .inn O F e l h⟩
    · refine .inr ⟨fun i => match i with | 0 => s | i + 1 => f i, fun i => match i with | 0 => x | i + 1 => xs i, fun i => match i with | 0 => z | i + 1 => zs i, rfl, fun i hi => ?_⟩
      match i with
      | 0 => show P.Mv s x z (f 0); rw [h0]; exact v
      | i + 1 => exact h i (by omega)
theorem way (O : P.Ok s) (F : P.First s) : ∃ k e, P.Pth k s e := by
  rcases way_or (2 ^ (P.nu + P.m + 1)) s O F with h | ⟨f, xs, zs, _, R⟩
  · exact h
  · have := Run.short (P.nu + P.m + 1) _ f xs zs R fun i hi => by
      have := Mv.xin (R i hi)
      exact ⟨this.2.2.1, this.2.2.2⟩
    omega
/-- the end of a way -/
theorem Pth.end_ {k : Nat} {e : Ns} (h : P.Pth k s e) : P.Ok e ∧ P.Ter e ∧ (P.First e ∨ P.Sol e) := by
  induction h with
  | done O F t => exact ⟨O, t, .inl F⟩
  | sol O t S => exact ⟨O, t, .inr S⟩
  | inn _ _ _ _ _ ih => exact ih
  | out _ _ _ _ _ ih => exact ih
theorem Ter.nn (O : P.Ok s) (t : P.Ter s) {x : Nat} (h : x < P.nu + P.m + 1) : 0 ≤ P.T s (P.m + 1) x := by
  rcases O.all x h with h | h
  · rw [G_bas O h]; exact Int.le_refl 0
  · exact t x h
theorem Ter.no (t : P.Ter s) {c x : Nat} (e : P.Ent s c x) : False := by
  have := t x (List.mem_of_getElem? e.at_)
  have := e.neg
  omega
/-- the end is one -/
theorem Pth.uniq {k k' : Nat} {e e' : Ns} (h : P.Pth k s e) (h' : P.Pth k' s e') : e = e' := by
  induction h generalizing k' with
  | done O F t =>
    cases h' with
    | done => rfl
    | sol => rfl
    | inn _ _ e' _ _ => exact (Ter.no t e').elim
    | out _ _ e' _ _ => exact (Ter.no t e').elim
  | sol O t S =>
    cases h' with
    | done => rfl
    | sol => rfl
    | inn _ _ e' _ _ => exact (Ter.no t e').elim
    | out _ _ e' _ _ => exact (Ter.no t e').elim
  | inn O F e l _ ih =>
    cases h' with
    | done _ _ t => exact (Ter.no t e).elim
    | sol _ t _ => exact (Ter.no t e).elim
    | inn _ _ e2 l2 h2 =>
      obtain ⟨rfl, rfl⟩ := Ent.uniq e e2
      obtain ⟨rfl, rfl⟩ := Lea.uniq O l l2
      exact ih h2
    | out _ _ e2 q2 _ =>
      obtain ⟨rfl, rfl⟩ := Ent.uniq e e2
      have := q2 _ l.lt
      have := l.pos
      omega
  | out O F e q _ ih =>
    cases h' with
    | done _ _ t => exact (Ter.no t e).elim
    | sol _ t _ => exact (Ter.no t e).elim
    | inn _ _ e2 l2 h2 =>
      obtain ⟨rfl, rfl⟩ := Ent.uniq e e2
      have := q _ l2.lt
      have := l2.pos
      omega
    | out _ _ e2 q2 h2 =>
      obtain ⟨rfl, rfl⟩ := Ent.uniq e e2
      exact ih h2
end
end Kb
namespace Kb
section
variable {P : Pb} {s : Ns}
/-- a row at any name, by the unit names -/
theorem T_lin (O : P.Ok s) {k : Nat} (hk : k < P.m + 2) (x : Nat) : P.T s k x = sm (P.m + 1) (fun i => P.a x i * P.T s k (P.nu + i)) + P.a x (P.m + 1) * W (P.m + 2) ((P.bt s).set k (ev1 (P.m + 1))) := by
  have hk2 : k < (P.bt s).length := by rw [O.btl]; exact hk
  let u : Nat → Vec := fun i => if i = P.m + 1 then ev1 (P.m + 1) else P.a (P.nu + i)
  have hu : ∀ i j, i < P.m + 2 → j < P.m + 2 → u i j = ev1 i j := fun i j hi hj => by
    show (if i = P.m + 1 then ev1 (P.m + 1) else P.a (P.nu + i)) j = _
    split
    · rename_i e; rw [e]
    · exact a_unit i (by omega) hj
  have h := W_set_sum (P.m + 2) hk2 ((List.range (P.m + 2)).map fun i => (P.a x i, u i))
  rw [List.map_map] at h
  have e : W (P.m + 2) ((P.bt s).set k (vsum ((List.range (P.m + 2)).map fun i => (P.a x i, u i)))) = P.T s k x := by
    refine W_set_ext _ hk2 fun j hj => ?_
    unfold vsum
    rw [List.map_map]
    show sm (P.m + 2) (fun i => P.a x i * u i j) = _
    rw [sm_one hj (fun i hi hne => by rw [hu i j hi hj]; unfold ev1; rw [if_neg (Ne.symm hne), Int.mul_zero]), hu j j hj hj]
    simp [ev1]
  rw [e] at h
  rw [h]
  show sm (P.m + 2) (fun i => P.a x i * W (P.m + 2) ((P.bt s).set k (u i))) = _
  rw [sm_succ]
  have e2 : u (P.m + 1) = ev1 (P.m + 1) := if_pos rfl
  rw [e2]
  congr 1
  refine sm_congr fun i hi => ?_
  have e3 : u i = P.a (P.nu + i) := if_neg (by omega)
  rw [e3]
  rfl
/-- no column enters: weights -/
theorem endA (O : P.Ok s) (F : P.First s) (t : P.Ter s) : (∀ i, i < P.m + 1 → 0 ≤ P.T s (P.m + 1) (P.nu + i)) ∧ ∀ j, j < P.nu → P.a j P.m * P.D s ≤ sm P.m fun i => P.a j i * P.T s (P.m + 1) (P.nu + i) := by
  refine ⟨fun i hi => Ter.nn O t (by omega), fun j hj => ?_⟩
  have h := Ter.nn O t (x := j) (by omega)
  rw [T_lin O (by omega) j, sm_succ, G_bas O (List.mem_of_getElem? F), Int.mul_zero, P.flat j (by omega), set_at_self (bt_last O)] at h
  have e : W (P.m + 2) (P.bt s) = P.D s := rfl
  rw [e, Int.neg_mul] at h
  omega
/-- the point -/
def Pb.pt (P : Pb) (s : Ns) (j : Nat) : Int := sm (P.m + 1) fun k => if s.bas.getD k 0 = j then P.T s k (P.nu + P.m) else 0
theorem endB (O : P.Ok s) (S : P.Sol s) : (∀ i, i < P.m → sm P.nu (fun j => P.pt s j * P.a j i) ≤ 0) ∧ sm P.nu (fun j => P.pt s j * P.a j P.m) = P.D s := by
  have hb : ∀ k, k < P.m + 1 → s.bas[k]? = some (s.bas.getD k 0) := fun k hk => by
    rw [List.getD_eq_getElem?_getD, List.getElem?_eq_getElem (by rw [O.bl]; exact hk)]
    rfl
  -- the sums by rows
  have hs : ∀ i, sm P.nu (fun j => P.pt s j * P.a j i) = sm (P.m + 1) fun k => if s.bas.getD k 0 < P.nu then P.T s k (P.nu + P.m) * P.a (s.bas.getD k 0) i else 0 := fun i => by
    have e1 : sm P.nu (fun j => P.pt s j * P.a j i) = sm P.nu fun j => sm (P.m + 1) fun k => (if s.bas.getD k 0 = j then P.T s k (P.nu + P.m) else 0) * P.a j i := sm_congr fun j _ => (sm_muld _ _ _).symm
    rw [e1, sm_swap]
    refine sm_congr fun k hk => ?_
    by_cases h : s.bas.getD k 0 < P.nu
    · rw [if_pos h, sm_one h fun j hj hne => by rw [if_neg (Ne.symm hne), Int.zero_mul], if_pos rfl]
    · rw [if_neg h]
      exact sm_none fun j hj => by rw [if_neg (by omega), Int.zero_mul]
  have key : ∀ i, i < P.m + 1 → P.D s * ev1 P.m i = sm (P.m + 1) fun k => P.T s k (P.nu + P.m) * P.a (s.bas.getD k 0) i := fun i hi => by
    have h := O.at (P.nu + P.m) (i := i) (by omega)
    rw [a_unit P.m (Nat.le_refl _) (by omega), sm_succ, List.getD_eq_getElem?_getD, bt_last O] at h
    rw [h]
    have e : (some (ev1 (P.m + 1))).getD dv i = 0 := by show ev1 (P.m + 1) i = 0; unfold ev1; rw [if_neg (by omega)]
    rw [e, Int.mul_zero, Int.add_zero]
    refine sm_congr fun k hk => ?_
    rw [List.getD_eq_getElem?_getD, bt_at (hb k hk)]
    rfl
  have slack : ∀ i k, i < P.m + 1 → k < P.m + 1 → P.nu ≤ s.bas.getD k 0 → s.bas.getD k 0 ≠ P.nu + P.m ∧ P.a (s.bas.getD k 0) i = ev1 (s.bas.getD k 0 - P.nu) i := fun i k hi hk h => by
    have h1 := O.bn _ (List.mem_of_getElem? (hb k hk))
    have h2 : s.bas.getD k 0 = P.nu + (s.bas.getD k 0 - P.nu) := by omega
    refine ⟨fun e => S.out (by rw [← e]; exact List.mem_of_getElem? (hb k hk)), ?_⟩
    rw [h2, a_unit _ (by omega) (by omega)]
    congr 1
    omega
  refine ⟨fun i hi => ?_, ?_⟩
  · rw [hs i]
    have h := key i (by omega)
    rw [show ev1 P.m i = 0 by unfold ev1; rw [if_neg (by omega)], Int.mul_zero] at h
    refine Int.le_trans ?_ (Int.le_of_eq h.symm)
    refine sm_le fun k hk => ?_
    by_cases z : s.bas.getD k 0 < P.nu
    · rw [if_pos z]; exact Int.le_refl _
    · rw [if_neg z, (slack i k (by omega) hk (by omega)).2]
      unfold ev1
      split
      · rw [Int.mul_one]; exact S.nn k hk
      · rw [Int.mul_zero]; exact Int.le_refl _
  · rw [hs P.m]
    have h := key P.m (by omega)
    rw [show ev1 P.m P.m = 1 by unfold ev1; rw [if_pos rfl], Int.mul_one] at h
    rw [h]
    refine sm_congr fun k hk => ?_
    by_cases z : s.bas.getD k 0 < P.nu
    · rw [if_pos z]
    · obtain ⟨h1, h2⟩ := slack P.m k (by omega) hk (by omega)
      have h3 := O.bn _ (List.mem_of_getElem? (hb k hk))
      rw [if_neg z, h2]
      unfold ev1
      rw [if_neg (by omega), Int.mul_zero]
end
end Kb
namespace Kb
/-! the start -/
theorem wl_ext {α : Type} (m : Nat) (u v : α → Vec) : ∀ (l : List α) (x : Lam m), (∀ i ∈ l, ∀ j, j < m → u i j = v i j) → wl m (l.map u) x = wl m (l.map v) x
  | [], x, h => rfl
  | i :: l, x, h => by
    rw [List.map_cons, List.map_cons, wl_cons, wl_cons, wdg_ext m (u i) (v i) x (h i List.mem_cons_self)]
    exact wl_ext m u v l _ fun k hk => h k (List.mem_cons_of_mem _ hk)
theorem wdg_zero (m : Nat) (v : Vec) : wdg m v (lzero m) = lzero m := by
  have := wdg_sm m v 0 (lzero m)
  rw [zero_lsm, zero_lsm] at this
  exact this
def lpr (m : Nat) (x y : Lam m) : Lam (m + 1) := (x, y)
theorem wdg_low (m : Nat) (v : Vec) (hv : v m = 0) (x : Lam m) : wdg (m + 1) v (lpr m x (lzero m)) = lpr m (wdg m v x) (lzero m) := by
  show (wdg m v x, ladd m (lsm m (v m) x) (lsm m (-1) (wdg m v (lzero m)))) = (wdg m v x, lzero m)
  rw [hv, zero_lsm, wdg_zero, lsm_zero, ladd_zero]
theorem wdg_high (m : Nat) (v : Vec) (hv : v m = 1) (x : Lam m) : ltop (m + 1) (wdg (m + 1) v (lpr m x (lzero m))) = ltop m x := by
  show ltop m (ladd m (lsm m (v m) x) (lsm m (-1) (wdg m v (lzero m)))) = ltop m x
  rw [hv, one_lsm, wdg_zero, lsm_zero, ladd_zero]
theorem wl_low (m : Nat) : ∀ (l : List Nat) (x : Lam m), (∀ i ∈ l, i < m) → wl (m + 1) (l.map ev1) (lpr m x (lzero m)) = lpr m (wl m (l.map ev1) x) (lzero m)
  | [], x, h => rfl
  | i :: l, x, h => by
    have hi := h i List.mem_cons_self
    rw [List.map_cons, wl_cons, wl_cons, wdg_low m (ev1 i) (by unfold ev1; rw [if_neg (by omega)])]
    exact wl_low m l _ fun k hk => h k (List.mem_cons_of_mem _ hk)
theorem W_units : ∀ m, W m ((List.range m).map ev1) = 1
  | 0 => rfl
  | m + 1 => by
    unfold W
    rw [List.range_succ, List.map_append, wl_app]
    have e : lone (m + 1) = lpr m (lone m) (lzero m) := rfl
    rw [e, wl_low m _ _ fun i hi => List.mem_range.mp hi, List.map_singleton, wl_cons]
    show ltop (m + 1) (wdg (m + 1) (ev1 m) _) = 1
    rw [wdg_high m (ev1 m) (by unfold ev1; rw [if_pos rfl])]
    exact W_units m
section
variable {m : Nat} {u : Nat → Vec}
theorem units_W (h : ∀ i j, i < m → j < m → u i j = ev1 i j) : W m ((List.range m).map u) = 1 := by
  rw [← W_units m]
  unfold W
  rw [wl_ext m u ev1 _ _ fun i hi j hj => h i j (List.mem_range.mp hi) hj]
theorem units_set (h : ∀ i j, i < m → j < m → u i j = ev1 i j) {k : Nat} (hk : k < m) (v : Vec) : W m (((List.range m).map u).set k v) = v k := by
  have hl : k < ((List.range m).map u).length := by simpa using hk
  have e := W_set_sum m hl ((List.range m).map fun i => (v i, u i))
  rw [List.map_map] at e
  have e2 : W m (((List.range m).map u).set k (vsum ((List.range m).map fun i => (v i, u i)))) = W m (((List.range m).map u).set k v) := by
    refine W_set_ext _ hl fun j hj => ?_
    unfold vsum
    rw [List.map_map]
    show sm m (fun i => v i * u i j) = _
    rw [sm_one hj (fun i hi hne => by rw [h i j hi hj]; unfold ev1; rw [if_neg (Ne.symm hne), Int.mul_zero]), h j j hj hj]
    simp [ev1]
  rw [e2] at e
  rw [e]
  show sm m (fun i => v i * W m (((List.range m).map u).set k (u i))) = _
  have at_ : ∀ i, i < m → ((List.range m).map u)[i]? = some (u i) := fun i hi => by
    rw [List.getElem?_map, List.getElem?_range hi]
    rfl
  rw [sm_one hk fun i hi hne => by rw [W_set_at m hl (at_ i hi) (Ne.symm hne), Int.mul_zero], set_at_self (at_ k hk), units_W h, Int.mul_one]
theorem units_Cr (h : ∀ i j, i < m → j < m → u i j = ev1 i j) : Cr m ((List.range m).map u) := by
  refine ⟨by simp, fun v i hi => ?_⟩
  have key : W m ((List.range m).map u) * v i = sm m fun k => W m (((List.range m).map u).set k v) * ((List.range m).map u).getD k dv i := by
    have at_ : ∀ i, i < m → ((List.range m).map u).getD i dv = u i := fun i hi => by
      rw [List.getD_eq_getElem?_getD, List.getElem?_map, List.getElem?_range hi]
      rfl
    rw [units_W h, Int.one_mul, sm_one hi fun k hk hne => by rw [at_ k hk, h k i hk hi, show ev1 k i = 0 by unfold ev1; rw [if_neg (Ne.symm hne)], Int.mul_zero], units_set h hi, at_ i hi, h i i hi hi]
    simp [ev1]
  rw [key]
  unfold vsum sm
  rw [List.map_map]
  rfl
end
def Pb.s0 (P : Pb) : Ns := ⟨(List.range (P.m + 1)).map (P.nu + ·), List.range P.nu⟩
def Pb.u0 (P : Pb) (i : Nat) : Vec := if i = P.m + 1 then ev1 (P.m + 1) else P.a (P.nu + i)
theorem u0_ok (P : Pb) : ∀ i j, i < P.m + 2 → j < P.m + 2 → P.u0 i j = ev1 i j := fun i j hi hj => by
  unfold Pb.u0
  split
  · rename_i e; rw [e]
  · exact a_unit i (by omega) hj
theorem bt_s0 (P : Pb) : P.bt P.s0 = (List.range (P.m + 2)).map P.u0 := by
  unfold Pb.bt Pb.s0
  rw [List.map_map, List.range_succ (n := P.m + 1), List.map_append]
  congr 1
  · refine List.map_congr_left fun i hi => ?_
    have := List.mem_range.mp hi
    unfold Pb.u0
    rw [if_neg (by omega)]
    rfl
  · unfold Pb.u0
    simp
theorem D_s0 (P : Pb) : P.D P.s0 = 1 := by
  unfold Pb.D
  rw [bt_s0]
  exact units_W (u0_ok P)
theorem T_s0 (P : Pb) {k : Nat} (hk : k < P.m + 2) (x : Nat) : P.T P.s0 k x = P.a x k := by
  unfold Pb.T
  rw [bt_s0]
  exact units_set (u0_ok P) hk _
theorem ok_s0 (P : Pb) : P.Ok P.s0 where
  bl := by simp [Pb.s0]
  cl := by simp [Pb.s0]
  all := fun x hx => by
    simp only [Pb.s0, List.mem_map, List.mem_range]
    by_cases h : x < P.nu
    · exact .inr h
    · exact .inl ⟨x - P.nu, by omega, by omega⟩
  bn := fun x hx => by
    simp only [Pb.s0, List.mem_map, List.mem_range] at hx
    obtain ⟨i, h1, h2⟩ := hx
    omega
  cn := fun x hx => by
    simp only [Pb.s0, List.mem_range] at hx
    omega
  cr := by rw [bt_s0]; exact units_Cr (u0_ok P)
  pos := by rw [D_s0]; decide
theorem first_s0 (P : Pb) : P.First P.s0 := by
  unfold Pb.First Pb.s0
  rw [List.getElem?_map, List.getElem?_range (by omega)]
  rfl
end Kb
namespace Kb
/-! sizes -/
def nrm : (m : Nat) → Lam m → Nat
  | 0, x => Int.natAbs (show Int from x)
  | m + 1, x => nrm m x.1 + nrm m x.2
def nv : Nat → Vec → Nat
  | 0, _ => 0
  | m + 1, v => nv m v + (v m).natAbs
theorem nrm_add : ∀ (m : Nat) (x y : Lam m), nrm m (ladd m x y) ≤ nrm m x + nrm m y
  | 0, x, y => Int.natAbs_add_le _ _
  | m + 1, x, y => by
    have h1 := nrm_add m x.1 y.1
    have h2 := nrm_add m x.2 y.2
    show nrm m (ladd m x.1 y.1) + nrm m (ladd m x.2 y.2) ≤ (nrm m x.1 + nrm m x.2) + (nrm m y.1 + nrm m y.2)
    omega
theorem nrm_sm : ∀ (m : Nat) (c : Int) (x : Lam m), nrm m (lsm m c x) = c.natAbs * nrm m x
  | 0, c, x => Int.natAbs_mul _ _
  | m + 1, c, x => by
    show nrm m (lsm m c x.1) + nrm m (lsm m c x.2) = c.natAbs * (nrm m x.1 + nrm m x.2)
    rw [nrm_sm m, nrm_sm m, Nat.mul_add]
theorem nrm_wdg : ∀ (m : Nat) (v : Vec) (x : Lam m), nrm m (wdg m v x) ≤ nv m v * nrm m x
  | 0, v, x => by
    show Int.natAbs 0 ≤ _
    exact Nat.zero_le _
  | m + 1, v, x => by
    have h1 := nrm_wdg m v x.1
    have h2 := nrm_wdg m v x.2
    have h3 := nrm_add m (lsm m (v m) x.1) (lsm m (-1) (wdg m v x.2))
    rw [nrm_sm, nrm_sm] at h3
    show nrm m (wdg m v x.1) + nrm m (ladd m (lsm m (v m) x.1) (lsm m (-1) (wdg m v x.2))) ≤ (nv m v + (v m).natAbs) * (nrm m x.1 + nrm m x.2)
    rw [Nat.add_mul, Nat.mul_add, Nat.mul_add]
    have e : Int.natAbs (-1) = 1 := rfl
    rw [e, Nat.one_mul] at h3
    omega
theorem nrm_top : ∀ (m : Nat) (x : Lam m), (ltop m x).natAbs ≤ nrm m x
  | 0, x => Nat.le_refl _
  | m + 1, x => by
    have := nrm_top m x.2
    show (ltop m x.2).natAbs ≤ nrm m x.1 + nrm m x.2
    omega
theorem nrm_zero : ∀ m, nrm m (lzero m) = 0
  | 0 => rfl
  | m + 1 => by show nrm m (lzero m) + nrm m (lzero m) = 0; rw [nrm_zero m]
theorem nrm_one : ∀ m, nrm m (lone m) = 1
  | 0 => rfl
  | m + 1 => by show nrm m (lone m) + nrm m (lzero m) = 1; rw [nrm_one m, nrm_zero m]
theorem nrm_wl (m B : Nat) : ∀ (vs : List Vec) (x : Lam m), (∀ v ∈ vs, nv m v ≤ B) → nrm m (wl m vs x) ≤ B ^ vs.length * nrm m x
  | [], x, h => by
    show nrm m x ≤ _
    rw [List.length_nil, Nat.pow_zero, Nat.one_mul]
    exact Nat.le_refl _
  | v :: vs, x, h => by
    rw [wl_cons, List.length_cons, Nat.pow_succ, Nat.mul_assoc]
    refine Nat.le_trans (nrm_wl m B vs _ fun w hw => h w (List.mem_cons_of_mem _ hw)) (Nat.mul_le_mul_left _ ?_)
    exact Nat.le_trans (nrm_wdg m v x) (Nat.mul_le_mul_right _ (h v List.mem_cons_self))
theorem W_le (m B : Nat) (vs : List Vec) (h : ∀ v ∈ vs, nv m v ≤ B) : (W m vs).natAbs ≤ B ^ vs.length := by
  unfold W
  have h1 := nrm_wl m B vs (lone m) h
  rw [nrm_one, Nat.mul_one] at h1
  exact Nat.le_trans (nrm_top m _) h1
theorem nv_le {B : Nat} {v : Vec} : ∀ {m : Nat}, (∀ i, i < m → (v i).natAbs ≤ B) → nv m v ≤ m * B
  | 0, h => Nat.zero_le _
  | m + 1, h => by
    have h1 := nv_le (v := v) (m := m) fun i hi => h i (by omega)
    have h2 := h m (by omega)
    show nv m v + (v m).natAbs ≤ _
    rw [Nat.add_mul, Nat.one_mul]
    omega
/-- all numbers of a table are small -/
theorem T_bd {P : Pb} {s : Ns} (O : P.Ok s) {b q : Nat} (hm : P.m + 2 ≤ 2 ^ q) (hb : ∀ x, x < P.nu + P.m + 1 → ∀ i, i < P.m + 2 → (P.a x i).natAbs ≤ 2 ^ b) :
    (P.D s).natAbs ≤ 2 ^ ((q + b) * (P.m + 2)) ∧ ∀ k x, x < P.nu + P.m + 1 → (P.T s k x).natAbs ≤ 2 ^ ((q + b) * (P.m + 2)) := by
  have hv : ∀ v : Vec, (∀ i, i < P.m + 2 → (v i).natAbs ≤ 2 ^ b) → nv (P.m + 2) v ≤ 2 ^ (q + b) := fun v h => by
    refine Nat.le_trans (nv_le h) ?_
    rw [Nat.pow_add]
    exact Nat.mul_le_mul_right _ hm
  have hbt : ∀ v ∈ P.bt s, nv (P.m + 2) v ≤ 2 ^ (q + b) := fun v hv' => by
    unfold Pb.bt at hv'
    rcases List.mem_append.mp hv' with h | h
    · obtain ⟨x, hx, rfl⟩ := List.mem_map.mp h
      exact hv _ (hb x (O.bn x hx))
    · rw [List.mem_singleton.mp h]
      refine hv _ fun i _ => ?_
      unfold ev1
      split
      · exact Nat.one_le_two_pow
      · exact Nat.zero_le _
  have hl := O.btl
  refine ⟨?_, fun k x hx => ?_⟩
  · have := W_le (P.m + 2) _ _ hbt
    rw [hl, ← Nat.pow_mul] at this
    exact this
  · have := W_le (P.m + 2) (2 ^ (q + b)) ((P.bt s).set k (P.a x)) fun v hv' => by
      rcases List.mem_or_eq_of_mem_set hv' with h | h
      · exact hbt v h
      · rw [h]; exact hv _ (hb x hx)
    rw [List.length_set, hl, ← Nat.pow_mul] at this
    exact this
end Kb
namespace Kb
/-! a table's rows as lists -/
section
variable {P : Pb} {s : Ns}
def Pb.rowOf (P : Pb) (s : Ns) (k : Nat) : List Int := (s.cols ++ [P.nu + P.m]).map (P.T s k)
def redF (row chosen : List Int) (c : Nat) (den : Int) : List Int := (List.zipWith (fun a b => (a * chosen.getD c 0 - row.getD c 0 * b) / den) row chosen).set c (0 - row.getD c 0)
theorem rowOf_len (O : P.Ok s) (k : Nat) : (P.rowOf s k).length = P.nu + 1 := by simp [Pb.rowOf, O.cl]
theorem rowOf_at {c x : Nat} (k : Nat) (h : s.cols[c]? = some x) : (P.rowOf s k)[c]? = some (P.T s k x) := by
  unfold Pb.rowOf
  rw [List.getElem?_map, List.getElem?_append_left (List.getElem?_eq_some_iff.mp h).1, h]
  rfl
theorem rowOf_last (O : P.Ok s) (k : Nat) : (P.rowOf s k)[P.nu]? = some (P.T s k (P.nu + P.m)) := by
  unfold Pb.rowOf
  rw [List.getElem?_map, List.getElem?_append_right (by rw [O.cl]; exact Nat.le_refl _), O.cl, Nat.sub_self]
  rfl
theorem getD_of {l : List Int} {i : Nat} {x : Int} (h : l[i]? = some x) (d : Int) : l.getD i d = x := by rw [List.getD_eq_getElem?_getD, h]; rfl
/-- the names of a row's numbers -/
theorem rowOf_names (k : Nat) (j : Nat) : (P.rowOf s k)[j]? = ((s.cols ++ [P.nu + P.m])[j]?).map (P.T s k) := by
  unfold Pb.rowOf
  rw [List.getElem?_map]
theorem set_names {c x z : Nat} {l : List Nat} {t : Nat} (hc : l[c]? = some x) (j : Nat) : (l.set c z ++ [t])[j]? = if j = c then some z else (l ++ [t])[j]? := by
  have hl := (List.getElem?_eq_some_iff.mp hc).1
  rw [← List.set_append_left _ _ hl, List.getElem?_set]
  split
  · rename_i e
    subst e
    rw [if_pos (by simp; omega), if_pos rfl]
  · rename_i e
    rw [if_neg (fun h => e h.symm)]
theorem swap_eq {c x r z : Nat} (hx : s.cols[c]? = some x) (hz : s.bas[r]? = some z) : s.swap r c = ⟨s.bas.set r x, s.cols.set c z⟩ := by
  unfold Ns.swap
  rw [List.getD_eq_getElem?_getD, List.getD_eq_getElem?_getD, hx, hz]
  rfl
theorem red_row (O : P.Ok s) {c x r z k : Nat} (hx : s.cols[c]? = some x) (hz : s.bas[r]? = some z) (hk : k < P.m + 2) (hkr : k ≠ r) : redF (P.rowOf s k) (P.rowOf s r) c (P.D s) = P.rowOf (s.swap r c) k := by
  have hr : r < P.m + 1 := by have := (List.getElem?_eq_some_iff.mp hz).1; rw [O.bl] at this; exact this
  have hcl := (List.getElem?_eq_some_iff.mp hx).1
  have hD : P.D s ≠ 0 := by have := O.pos; omega
  rw [swap_eq hx hz]
  unfold redF
  rw [getD_of (rowOf_at r hx), getD_of (rowOf_at k hx)]
  apply List.ext_getElem?
  intro j
  rw [rowOf_names, set_names hx, List.getElem?_set, List.length_zipWith, rowOf_len O, rowOf_len O, Nat.min_self]
  by_cases e : c = j
  · subst e
    rw [if_pos rfl, if_pos (by have := O.cl; omega), if_pos rfl]
    show _ = some (P.T _ k z)
    congr 1
    apply Int.eq_of_mul_eq_mul_left hD
    rw [T_exch O hr hk hkr, T_own hz, T_other O hk hz hkr, Int.zero_mul, Int.mul_sub, Int.mul_zero]
  · rw [if_neg e, if_neg (Ne.symm e), List.getElem?_zipWith, rowOf_names, rowOf_names]
    cases h : (s.cols ++ [P.nu + P.m])[j]? with
    | none => rfl
    | some y =>
      show some _ = some _
      congr 1
      rw [Int.ediv_eq_of_eq_mul_right hD]
      rw [T_exch O hr hk hkr]
      rw [Int.mul_comm (P.T s k x)]
theorem last_row (O : P.Ok s) {c x r z : Nat} (hx : s.cols[c]? = some x) (hz : s.bas[r]? = some z) : (P.rowOf s r).set c (P.D s) = P.rowOf (s.swap r c) r := by
  have hr : r < P.m + 1 := by have := (List.getElem?_eq_some_iff.mp hz).1; rw [O.bl] at this; exact this
  have hcl := (List.getElem?_eq_some_iff.mp hx).1
  rw [swap_eq hx hz]
  apply List.ext_getElem?
  intro j
  rw [rowOf_names, set_names hx, List.getElem?_set, rowOf_len O]
  by_cases e : c = j
  · subst e
    rw [if_pos rfl, if_pos (by have := O.cl; omega), if_pos rfl]
    show _ = some (P.T _ r z)
    rw [T_exch_r O hr, T_own hz]
  · rw [if_neg e, if_neg (Ne.symm e), rowOf_names]
    cases h : (s.cols ++ [P.nu + P.m])[j]? with
    | none => rfl
    | some y =>
      show some _ = some _
      rw [T_exch_r O hr]
/-- all rows behind an exchange -/
def Pb.rowsOf (P : Pb) (s : Ns) : List (List Int) := (List.range (P.m + 1)).map (P.rowOf s)
theorem rows_swap (O : P.Ok s) {c x r z : Nat} (hx : s.cols[c]? = some x) (hz : s.bas[r]? = some z) : (((P.rowsOf s).map fun row => redF row (P.rowOf s r) c (P.D s)).set r ((P.rowOf s r).set c (P.D s))) = P.rowsOf (s.swap r c) := by
  have hr : r < P.m + 1 := by have := (List.getElem?_eq_some_iff.mp hz).1; rw [O.bl] at this; exact this
  unfold Pb.rowsOf
  apply List.ext_getElem?
  intro j
  rw [List.map_map, List.getElem?_set, List.getElem?_map, List.getElem?_map, List.length_map, List.length_range]
  by_cases e : r = j
  · subst e
    rw [if_pos rfl, if_pos hr, List.getElem?_range hr, last_row O hx hz]
    rfl
  · rw [if_neg e]
    by_cases hj : j < P.m + 1
    · rw [List.getElem?_range hj]
      show some (redF (P.rowOf s j) (P.rowOf s r) c (P.D s)) = some _
      rw [red_row O hx hz (by omega) (Ne.symm e)]
    · rw [List.getElem?_eq_none (by simp; omega)]
      rfl
end
end Kb
namespace Kb
open PySem PySem.Spec PyProof.Rows L2
theorem cdW {k : Nat} {i j : Int} (h : 0 < j) (b : Bd k j) (h0 : 0 < k := by decide) (h9 : k ≤ 9000 := by decide) : CDivW i j := wide_div h b h0 h9
/-- a field of the instance -/
def FldD (d : Dat) (C : Addr) (f : Str) (x : Dat) : Prop := ∃ (oa : Addr) (ns : List Str) (l : List Dat) (i : Nat), d = .obj oa C ns l ∧ ns[i]? = some f ∧ l[i]? = some x
section
variable {S : Sg} {g : Wd} {e : Expr} {ρ : En} {pos : Pos} {f : Str} {d x : Dat}
theorem ed_fldD (cls : Cls S.K (tabC S.gc)) (na : NoAttr S.K (tabC S.gc) f) (h : Ed S g e ρ d) (hf : FldD d (tabC S.gc) f x) (hb : ∀ env, attributeBase e f env (eval e env) = eval e env := by intro _; rfl) : Ed S g (.Attribute e f pos) ρ x := by
  obtain ⟨oa, ns, l, i, rfl, h1, h2⟩ := hf
  exact ed_fld cls na h i h1 h2 hb
end
abbrev N_Table_reduced : List Str := ["self", "row", "chosen", "column", "pivot", "factor", "found", "a", "b"]
theorem sc_Table_reduced : FnScope N_Table_reduced ["self", "row", "chosen", "column"] (defScope s_Table_reduced) := ⟨rfl, rfl, rfl, by decide +kernel, rfl, by decide +kernel, by decide +kernel⟩
def R_reduced (C : Addr) (ds : List Dat) (d : Dat) : Prop := ∃ (o : Dat) (row chosen : List Int) (c : Nat) (den : Int), ds = [o, lI row, lI chosen, .int (c : Nat)] ∧ FldD o C "denominator" (.int den) ∧ row.length = chosen.length ∧ row.length ≤ 1000 ∧ c < row.length ∧ 0 < den ∧ Bd 2000 den ∧ (∀ x ∈ row, Bd 2000 x) ∧ (∀ x ∈ chosen, Bd 2000 x) ∧ d = lI (redF row chosen c den)
theorem ok_reduced {G : Gc} (H : Head G) : HasM G "reduced" 1 4 (PureSp 4 (R_reduced (tabC G))) := by
  refine H.pmeth (q := "Table.reduced") (st := s_Table_reduced) (ps := ["self", "row", "chosen", "column"]) 12 82 (by kernel_rfl) (by kernel_rfl) sc_Table_reduced (fun _ _ _ _ _ _ us hl => match us, hl with | [_, _, _, _], _ => rfl) fun A hr ds d hl hR => ?_
  have nd := sc_Table_reduced.nd
  obtain ⟨o, row, chosen, c, den, rfl, hf, hlen, hz, hc, h0, bd, br, bc, rfl⟩ := hR
  have gr := getD_get (d := (0 : Int)) hc
  have gc := getD_get (d := (0 : Int)) (hlen ▸ hc : c < chosen.length)
  have brc := br _ (List.mem_of_getElem? gr)
  have bcc := bc _ (List.mem_of_getElem? gc)
  refine x_cons (x_pack nd [4, 5] (.cons (by kernel_rfl) (.cons (by kernel_rfl) .nil)) (by simp [startE]) (by decide) (era_dat (Ed.ev (d := .int (chosen.getD c 0)) (ed_ix (ed_nm 2 (by kernel_rfl) rfl) (ed_nm 3 (by kernel_rfl) rfl) (ixl_nat (get_map gc))) (era_dat (Ed.ev (d := .int (row.getD c 0)) (ed_ix (ed_nm 1 (by kernel_rfl) rfl) (ed_nm 3 (by kernel_rfl) rfl) (ixl_nat (get_map gr))) (era_nil ⟨rfl, ?_⟩))))) (by kernel_rfl))
  refine x_cons (x_setLcM nd 6 (by kernel_rfl) [("a", 7), ("b", 8)] (by kernel_rfl) (ys := row.zip chosen) (enc := fun p => .tup [.int p.1, .int p.2]) (f := fun p => .int ((p.1 * chosen.getD c 0 - row.getD c 0 * p.2) / den)) (EdI.is (edi_zips2 (by kernel_rfl) (H.free 79) (ed_nm 1 (by kernel_rfl) rfl) (ed_nm 2 (by kernel_rfl) rfl) (by exact rfl) (by exact rfl) (by simpa using hlen)) (zp2_ints row chosen)) (by rw [List.length_zip]; omega) (fun y hy => ?_) (.inr ⟨by simp [startE, setR], ?_⟩))
  · have hm := List.of_mem_zip (a := y.1) (b := y.2) hy
    exact ⟨_, _, (by simp), (gd_tup (gds_cons (gd_nm nd 7 (by kernel_rfl)) (gds_cons (gd_nm nd 8 (by kernel_rfl)) gds_nil))), (ed_op (ed_op (ed_op (ed_nm 7 (by kernel_rfl) rfl) (ed_nm 4 (by kernel_rfl) rfl) (o_mul (cm (br _ hm.1) bcc))) (ed_op (ed_nm 5 (by kernel_rfl) rfl) (ed_nm 8 (by kernel_rfl) rfl) (o_mul (cm brc (bc _ hm.2)))) o_sub) (ed_fldD H.cls (H.noat 95) (ed_nm 0 (by kernel_rfl) rfl) hf) (o_fdiv (cdW h0 bd)))⟩
  · refine x_cons (x_put 6 (by kernel_rfl) rfl (Ed.ev (ed_op ed_int (ed_nm 5 (by kernel_rfl) rfl) o_sub) (Ed.ev (ed_nm 3 (by kernel_rfl) rfl) ⟨_, c, rfl, ixN_nat (by simp; omega), ?_⟩)))
    refine x_freeze (i := 6) rfl (x_one (x_ret (Ed.ev (ed_nm 6 (by kernel_rfl) rfl) ?_)))
    simp [lI, redF, map_set, List.zip]
end Kb
namespace Kb
open PySem PySem.Spec PyProof.Rows L2
/-! a table as a datum -/
structure Pb.Sm (P : Pb) : Prop where
  m : P.m ≤ 20
  nu : P.nu ≤ 100
  bd : ∀ x, x < P.nu + P.m + 1 → ∀ i, i < P.m + 2 → (P.a x i).natAbs ≤ 2 ^ 72
section
variable {P : Pb} {s : Ns}
theorem pow_lt {m : Nat} (h : m ≤ 20) {x : Int} (hx : x.natAbs ≤ 2 ^ ((5 + 72) * (m + 2))) : Bd 2000 x := by
  refine Nat.lt_of_le_of_lt (Nat.le_trans hx (Nat.pow_le_pow_right (by decide) (?_ : _ ≤ 1999))) ?_
  · omega
  · exact Nat.pow_lt_pow_right (by decide) (by decide)
theorem D_bd (O : P.Ok s) (Z : P.Sm) : Bd 2000 (P.D s) := pow_lt Z.m (T_bd O (b := 72) (q := 5) (by have := Z.m; omega) Z.bd).1
theorem T_bd2 (O : P.Ok s) (Z : P.Sm) (k : Nat) {x : Nat} (hx : x < P.nu + P.m + 1) : Bd 2000 (P.T s k x) := pow_lt Z.m ((T_bd O (b := 72) (q := 5) (by have := Z.m; omega) Z.bd).2 k x hx)
theorem row_bd (O : P.Ok s) (Z : P.Sm) (k : Nat) : ∀ x ∈ P.rowOf s k, Bd 2000 x := fun x hx => by
  unfold Pb.rowOf at hx
  obtain ⟨y, hy, rfl⟩ := List.mem_map.mp hx
  refine T_bd2 O Z k ?_
  rcases List.mem_append.mp hy with h | h
  · exact O.cn y h
  · rw [List.mem_singleton.mp h]; omega
def tbl (P : Pb) (s : Ns) : List Dat := [nI P.nu, .lst ((P.rowsOf s).map lI), lI (P.rowOf s (P.m + 1)), .lst (s.cols.map nI), .lst (s.bas.map nI), .int (P.D s)]
def tblE (o C : Addr) (P : Pb) (s : Ns) : Dat := .obj o C tabKeys (tbl P s)
theorem tf_size {o C : Addr} : FldD (tblE o C P s) C "size" (nI P.nu) := ⟨_, _, _, 0, rfl, rfl, rfl⟩
theorem tf_rows {o C : Addr} : FldD (tblE o C P s) C "rows" (.lst ((P.rowsOf s).map lI)) := ⟨_, _, _, 1, rfl, rfl, rfl⟩
theorem tf_goal {o C : Addr} : FldD (tblE o C P s) C "goal" (lI (P.rowOf s (P.m + 1))) := ⟨_, _, _, 2, rfl, rfl, rfl⟩
theorem tf_cols {o C : Addr} : FldD (tblE o C P s) C "columns" (.lst (s.cols.map nI)) := ⟨_, _, _, 3, rfl, rfl, rfl⟩
theorem tf_bas {o C : Addr} : FldD (tblE o C P s) C "basis" (.lst (s.bas.map nI)) := ⟨_, _, _, 4, rfl, rfl, rfl⟩
theorem rows_at (k : Nat) (hk : k < P.m + 1) : ((P.rowsOf s).map lI)[k]? = some (lI (P.rowOf s k)) := by
  unfold Pb.rowsOf
  rw [List.getElem?_map, List.getElem?_map, List.getElem?_range hk]
  rfl
theorem row_last (O : P.Ok s) (k : Nat) : atI ((P.rowOf s k).map Dat.int) (-1) = some (.int (P.T s k (P.nu + P.m))) := by
  have h := get_map (f := Dat.int) (rowOf_last O k)
  have hl : ((P.rowOf s k).map Dat.int).length = P.nu + 1 := by rw [List.length_map, rowOf_len O]
  unfold atI ixN
  rw [hl, if_neg (by decide), if_pos (by omega)]
  show ((P.rowOf s k).map Dat.int)[((-1 : Int) + ((P.nu + 1 : Nat) : Int)).toNat]? = _
  rw [show ((-1 : Int) + ((P.nu + 1 : Nat) : Int)).toNat = P.nu by omega]
  exact h
end
abbrev N_Table_entering : List Str := ["self", "some", "column", "name"]
theorem sc_Table_entering : FnScope N_Table_entering ["self"] (defScope s_Table_entering) := ⟨rfl, rfl, rfl, by decide +kernel, rfl, by decide +kernel, by decide +kernel⟩
def EntR (P : Pb) (s : Ns) (d : Dat) : Prop := (P.Ter s ∧ d = .non) ∨ ∃ c x, P.Ent s c x ∧ d = nI c
def R_entering (C : Addr) (ds : List Dat) (d : Dat) : Prop := ∃ (o : Addr) (P : Pb) (s : Ns), ds = [tblE o C P s] ∧ P.Ok s ∧ P.Sm ∧ EntR P s d
theorem ok_entering {G : Gc} (H : Head G) : HasM G "entering" 1 1 (PureSp 1 (R_entering (tabC G))) := by
  refine H.pmeth (q := "Table.entering") (st := s_Table_entering) (ps := ["self"]) 14 84 (by kernel_rfl) (by kernel_rfl) sc_Table_entering (fun _ _ _ _ _ _ us hl => match us, hl with | [_], _ => rfl) fun A hr ds d hl hR => ?_
  have nd := sc_Table_entering.nd
  obtain ⟨o, P, s, rfl, O, Z, hd⟩ := hR
  have hcl := O.cl
  have hnu := Z.nu
  refine x_cons (x_setLcP nd 1 (by kernel_rfl) [("column", 2), ("name", 3)] (by kernel_rfl) (ys := s.cols.zipIdx) (enc := fun p => .tup [nI p.2, nI p.1]) (t := fun p => decide (P.T s (P.m + 1) p.1 < 0)) (f := fun p => pI ((p.1 : Nat), (p.2 : Nat))) (EdI.is (edi_enum (by kernel_rfl) (H.free 66) (ed_fldD H.cls (H.noat 93) (ed_nm 0 (by kernel_rfl) rfl) tf_cols)) ?_) ?_ (fun y hy => ?_) (.inl ?_))
  · rw [zipIdx_map', List.map_map]
    rfl
  · rw [List.length_zipIdx]; omega
  · have h1 : s.cols[y.2]? = some y.1 := by
      have := List.mem_zipIdx_iff_getElem?.mp hy
      simpa using this
    exact ⟨_, _, (by simp), (gd_tup (gds_cons (gd_nm nd 2 (by kernel_rfl)) (gds_cons (gd_nm nd 3 (by kernel_rfl)) gds_nil))), (etds_one (etd_cmp (ed_ix (ed_fldD H.cls (H.noat 92) (ed_nm 0 (by kernel_rfl) rfl) tf_goal) (ed_nm 2 (by kernel_rfl) rfl) (ixl_nat (get_map (rowOf_at (P.m + 1) h1)))) ed_int o_lt)), fun ht => (ed_tup (eda_cons (ed_nm 3 (by kernel_rfl) rfl) (eda_cons (ed_nm 2 (by kernel_rfl) rfl) eda_nil)) (by simp))⟩
  · have e : (s.cols.zipIdx.filter fun p => decide (P.T s (P.m + 1) p.1 < 0)).map (fun p => pI ((p.1 : Nat), (p.2 : Nat))) = ((s.cols.zipIdx.filter fun p => decide (P.T s (P.m + 1) p.1 < 0)).map fun p => (((p.1 : Nat) : Int), ((p.2 : Nat) : Int))).map pI := by rw [List.map_map]; rfl
    rw [e]
    obtain ⟨ns, en⟩ : ∃ ns, ns = (s.cols.zipIdx.filter fun p => decide (P.T s (P.m + 1) p.1 < 0)).map fun p => (((p.1 : Nat) : Int), ((p.2 : Nat) : Int)) := ⟨_, rfl⟩
    rw [← en]
    have mem : ∀ q : Int × Int, q ∈ ns ↔ ∃ c x : Nat, s.cols[c]? = some x ∧ P.T s (P.m + 1) x < 0 ∧ q = ((x : Int), (c : Int)) := fun q => by
      rw [en, List.mem_map]
      constructor
      · rintro ⟨p, hp, rfl⟩
        obtain ⟨h1, h2⟩ := List.mem_filter.mp hp
        have h3 : s.cols[p.2]? = some p.1 := by
          have := List.mem_zipIdx_iff_getElem?.mp h1
          simpa using this
        exact ⟨p.2, p.1, h3, of_decide_eq_true h2, rfl⟩
      · rintro ⟨c, x, h1, h2, rfl⟩
        refine ⟨(x, c), List.mem_filter.mpr ⟨List.mem_zipIdx_iff_getElem?.mpr (by simpa using h1), decide_eq_true h2⟩, rfl⟩
    refine x_one (x_ret (Ed.ev (ed_if (etd_cmp (ed_nm 1 (by kernel_rfl) rfl) (EdN.ed (edn_lst eda_nil)) (o_neP0 hr)) (fun h => ?_) (fun h => ?_)) rfl))
    · have hne : ns ≠ [] := fun z => by rw [z] at h; cases h
      rcases hd with ⟨t, _⟩ | ⟨c, x, en2, rfl⟩
      · match ns, hne, mem with
        | q :: _, _, mem =>
          obtain ⟨c, x, h1, h2, _⟩ := (mem q).mp List.mem_cons_self
          have := t x (List.mem_of_getElem? h1)
          omega
      · refine ed_ix (x := pI ((x : Nat), (c : Nat))) (ed_blt (by kernel_rfl) (H.free 72) PyProof.Rows.boot_min (eda_cons (ed_nm 1 (by kernel_rfl) rfl) eda_nil) (fun K k => c_minP hr hne fun p hp hm => ?_)) ed_int (.tup rfl)
        obtain ⟨c2, x2, g1, g2, rfl⟩ := (mem p).mp hp
        have g3 := hm ((x : Int), (c : Int)) ((mem _).mpr ⟨c, x, en2.at_, en2.neg, rfl⟩)
        have g4 := en2.least c2 x2 g1 g2
        have e1 : x = x2 ∧ c = c2 := by
          unfold lexLt at g3
          simp only at g3
          omega
        obtain ⟨rfl, rfl⟩ := e1
        exact k
    · have hnil : ns = [] := by
        cases ns with
        | nil => rfl
        | cons _ _ => cases h
      rcases hd with ⟨_, rfl⟩ | ⟨c, x, en2, rfl⟩
      · exact ed_non
      · have := (mem ((x : Int), (c : Int))).mpr ⟨c, x, en2.at_, en2.neg, rfl⟩
        rw [hnil] at this
        cases this
end Kb
namespace Kb
open PySem PySem.Spec PyProof.Rows L2
abbrev N_Table_limits_more : List Str := ["self", "row", "index", "best", "column", "other", "one", "two"]
theorem sc_Table_limits_more : FnScope N_Table_limits_more ["self", "row", "index", "best", "column"] (defScope s_Table_limits_more) := ⟨rfl, rfl, rfl, by decide +kernel, rfl, by decide +kernel, by decide +kernel⟩
def limF (P : Pb) (s : Ns) (i r x : Nat) : Bool := decide (P.T s i (P.nu + P.m) * P.T s r x < P.T s r (P.nu + P.m) * P.T s i x) || (decide (P.T s i (P.nu + P.m) * P.T s r x = P.T s r (P.nu + P.m) * P.T s i x) && decide (s.bas.getD i 0 < s.bas.getD r 0))
def R_limits_more (C : Addr) (ds : List Dat) (d : Dat) : Prop := ∃ (o : Addr) (P : Pb) (s : Ns) (i r c x : Nat), ds = [tblE o C P s, lI (P.rowOf s i), nI i, nI r, nI c] ∧ P.Ok s ∧ P.Sm ∧ i < P.m + 1 ∧ r < P.m + 1 ∧ s.cols[c]? = some x ∧ d = .bl (limF P s i r x)
theorem ok_limits_more {G : Gc} (H : Head G) : HasM G "limits_more" 1 5 (PureSp 5 (R_limits_more (tabC G))) := by
  refine H.pmeth (q := "Table.limits_more") (st := s_Table_limits_more) (ps := ["self", "row", "index", "best", "column"]) 16 86 (by kernel_rfl) (by kernel_rfl) sc_Table_limits_more (fun _ _ _ _ _ _ us hl => match us, hl with | [_, _, _, _, _], _ => rfl) fun A hr ds d hl hR => ?_
  have nd := sc_Table_limits_more.nd
  obtain ⟨o, P, s, i, r, c, x, rfl, O, Z, hi, hr2, hx, rfl⟩ := hR
  have hxn := O.cn x (List.mem_of_getElem? hx)
  have b1 := fun k => T_bd2 O Z k hxn
  have b2 := fun k => T_bd2 O Z k (x := P.nu + P.m) (by omega)
  have bi : (s.bas.map nI)[i]? = some (nI (s.bas.getD i 0)) := get_map (getD_get (by rw [O.bl]; exact hi))
  have br : (s.bas.map nI)[r]? = some (nI (s.bas.getD r 0)) := get_map (getD_get (by rw [O.bl]; exact hr2))
  refine x_cons (xd_set nd 5 (by kernel_rfl) (ed_ix (ed_fldD H.cls (H.noat 91) (ed_nm 0 (by kernel_rfl) rfl) tf_rows) (ed_nm 3 (by kernel_rfl) rfl) (ixl_nat (rows_at r hr2))) ?_)
  refine x_cons (x_par2 nd 6 7 ⟨by kernel_rfl, by kernel_rfl⟩ ⟨by kernel_rfl, by kernel_rfl⟩ (by decide) (by simp [startE]) (by kernel_rfl) (era_dat (Ed.ev (d := .int (P.T s i (P.nu + P.m) * P.T s r x)) (ed_op (ed_ix (ed_nm 1 (by kernel_rfl) rfl) (ed_neg ed_int) (.lst (row_last O i))) (ed_ix (ed_nm 5 (by kernel_rfl) rfl) (ed_nm 4 (by kernel_rfl) rfl) (ixl_nat (get_map (rowOf_at r hx)))) (o_mul (cm (b2 i) (b1 r)))) (era_dat (Ed.ev (d := .int (P.T s r (P.nu + P.m) * P.T s i x)) (ed_op (ed_ix (ed_nm 5 (by kernel_rfl) rfl) (ed_neg ed_int) (.lst (row_last O r))) (ed_ix (ed_nm 1 (by kernel_rfl) rfl) (ed_nm 4 (by kernel_rfl) rfl) (ixl_nat (get_map (rowOf_at i hx)))) (o_mul (cm (b2 r) (b1 i)))) (era_nil ⟨rfl, ?_⟩))))))
  refine x_one (x_ret (Ed.ev (ed_or (ed_cmp (ed_nm 6 (by kernel_rfl) rfl) (ed_nm 7 (by kernel_rfl) rfl) o_lt) (fun h => (ed_one (ed_and (ed_cmp (ed_nm 6 (by kernel_rfl) rfl) (ed_nm 7 (by kernel_rfl) rfl) o_eq) (fun h => (ed_one (ed_cmp (ed_ix (ed_fldD H.cls (H.noat 94) (ed_nm 0 (by kernel_rfl) rfl) tf_bas) (ed_nm 2 (by kernel_rfl) rfl) (ixl_nat bi)) (ed_ix (ed_fldD H.cls (H.noat 94) (ed_nm 0 (by kernel_rfl) rfl) tf_bas) (ed_nm 3 (by kernel_rfl) rfl) (ixl_nat br)) o_lt))))))) ?_))
  show Dat.bl _ = Dat.bl _
  unfold limF
  have e : decide (((s.bas.getD i 0 : Nat) : Int) < ((s.bas.getD r 0 : Nat) : Int)) = decide (s.bas.getD i 0 < s.bas.getD r 0) := by rw [decide_eq_decide]; omega
  rw [e]
abbrev N_Table_leaving : List Str := ["self", "column", "best", "index", "row"]
theorem sc_Table_leaving : FnScope N_Table_leaving ["self", "column"] (defScope s_Table_leaving) := ⟨rfl, rfl, rfl, by decide +kernel, rfl, by decide +kernel, by decide +kernel⟩
def LeaR (P : Pb) (s : Ns) (x r : Nat) : Prop := (∃ z, P.Lea s x r z) ∨ (r = P.m ∧ ∀ i, i < P.m → P.T s i x ≤ 0)
def R_leaving (C : Addr) (ds : List Dat) (d : Dat) : Prop := ∃ (o : Addr) (P : Pb) (s : Ns) (c x r : Nat), ds = [tblE o C P s, nI c] ∧ P.Ok s ∧ P.First s ∧ P.Sm ∧ P.Ent s c x ∧ LeaR P s x r ∧ d = nI r
/-- the best row so far -/
def Best (P : Pb) (s : Ns) (x i : Nat) : Option Nat → Prop
  | none => ∀ k, k < i → P.T s k x ≤ 0
  | some r => r < i ∧ 0 < P.T s r x ∧ ((r < P.m ∧ ∀ k, k < i → k < P.m → 0 < P.T s k x → s.bas.getD r 0 ≤ s.bas.getD k 0) ∨ (r = P.m ∧ ∀ k, k < P.m → P.T s k x ≤ 0))
def bD : Option Nat → Dat
  | none => .non
  | some r => nI r
theorem zipIdx_at {α : Type} {l : List α} {i : Nat} {x : α} (h : l[i]? = some x) : l.zipIdx[i]? = some (x, i) := by
  rw [List.getElem?_zipIdx, h]
  simp
theorem getD_of' {l : List Nat} {i x d : Nat} (h : l[i]? = some x) : l.getD i d = x := by rw [List.getD_eq_getElem?_getD, h]; rfl
theorem ok_leaving {G : Gc} (H : Head G) : HasM G "leaving" 2 2 (PureSp 2 (R_leaving (tabC G))) := by
  refine H.pmeth (q := "Table.leaving") (st := s_Table_leaving) (ps := ["self", "column"]) 15 85 (by kernel_rfl) (by kernel_rfl) sc_Table_leaving (fun _ _ _ _ _ _ us hl => match us, hl with | [_, _], _ => rfl) fun A hr ds d hl hR => ?_
  have nd := sc_Table_leaving.nd
  obtain ⟨o, P, s, c, x, r, rfl, O, F, Z, en, hL, rfl⟩ := hR
  have hx := en.at_
  have hxlt := Ent.lt O F en
  have hTm : 0 < P.T s P.m x := by have := T_flat0 O F hxlt; have := en.neg; omega
  have hb : ∀ k, k < P.m + 1 → s.bas[k]? = some (s.bas.getD k 0) := fun k hk => getD_get (by rw [O.bl]; exact hk)
  have hR0 : ∀ k, k < P.m → P.T s k (P.nu + P.m) = 0 := fun k hk => T_other O (by omega) F (by omega)
  have hRm : P.T s P.m (P.nu + P.m) = P.D s := T_own F
  refine x_cons (xd_set nd 2 (by kernel_rfl) ed_non ?_)
  refine x_cons (x_for (EdI.ev (edi_enum (by kernel_rfl) (H.free 66) (ed_fldD H.cls (H.noat 91) (ed_nm 0 (by kernel_rfl) rfl) tf_rows)) ⟨fun i n ρ => n = 0 ∧ ∃ b a e, Best P s x i b ∧ ρ = [.dat (tblE o (tabC G) P s), .dat (nI c), .dat (bD b), a, e], ⟨rfl, none, .no, .no, fun k hk => by omega, rfl⟩, fun i z n2 ρ2 hz ⟨en2, b, a, e, hB, er⟩ => ?_, fun n2 ρ2 ⟨en2, b, a, e, hB, er⟩ => ?_⟩))
  · subst en2 er
    have hi : i < P.m + 1 := by
      have := (List.getElem?_eq_some_iff.mp hz).1
      simpa [Pb.rowsOf] using this
    have ez : z = .tup [nI i, lI (P.rowOf s i)] := by
      rw [List.getElem?_map, zipIdx_at (rows_at i hi)] at hz
      exact (Option.some.inj hz).symm
    subst ez
    refine ⟨_, _, (gd_tup (gds_cons (gd_nm nd 3 (by kernel_rfl)) (gds_cons (gd_nm nd 4 (by kernel_rfl)) gds_nil))), ?_⟩
    cases b with
    | none =>
      refine x_one (xd_if (b := decide (0 < P.T s i x) && (isN (bD none) || false)) (etd_w (ewd_and (etd_cmp (ed_ix (ed_nm 4 (by kernel_rfl) rfl) (ed_nm 1 (by kernel_rfl) rfl) (ixl_nat (get_map (rowOf_at i hx)))) ed_int o_gt) (fun h => (ewd_and1 (etd_w (ewd_or (etd_cmp (ed_nm 2 (by kernel_rfl) rfl) ed_non o_isN) (fun h => by cases h))))))) (fun h => x_one (xd_set nd 2 (by kernel_rfl) (ed_nm 3 (by kernel_rfl) rfl) ⟨rfl, some i, _, _, ?_, rfl⟩)) (fun h => x_nil ⟨rfl, none, _, _, ?_, rfl⟩))
      · have hp : 0 < P.T s i x := of_decide_eq_true (Bool.and_eq_true_iff.mp h).1
        refine ⟨by omega, hp, ?_⟩
        by_cases him : i < P.m
        · refine .inl ⟨him, fun k hk hkm hkp => ?_⟩
          by_cases e : k = i
          · rw [e]; exact Nat.le_refl _
          · have := hB k (by omega); omega
        · exact .inr ⟨by omega, fun k hk => hB k (by omega)⟩
      · have hp : ¬ 0 < P.T s i x := fun z => by
          rw [decide_eq_true z] at h
          cases h
        intro k hk
        by_cases e : k = i
        · rw [e]; omega
        · exact hB k (by omega)
    | some q =>
      obtain ⟨hq1, hq2, hq3⟩ := hB
      have hqm : q < P.m := by omega
      have hql : ∀ k, k < i → k < P.m → 0 < P.T s k x → s.bas.getD q 0 ≤ s.bas.getD k 0 := by
        rcases hq3 with h | h
        · exact h.2
        · omega
      refine x_one (xd_if (b := decide (0 < P.T s i x) && (isN (bD (some q)) || limF P s i q x)) (etd_w (ewd_and (etd_cmp (ed_ix (ed_nm 4 (by kernel_rfl) rfl) (ed_nm 1 (by kernel_rfl) rfl) (ixl_nat (get_map (rowOf_at i hx)))) ed_int o_gt) (fun h => (ewd_and1 (etd_w (ewd_or (etd_cmp (ed_nm 2 (by kernel_rfl) rfl) ed_non o_isN) (fun h => (ewd_or1 (etd_val (ed_meth (ok_limits_more H) H.cls (hr.mono (by decide)) (ed_nm 0 (by kernel_rfl) rfl) (by decide) (eda_cons (ed_nm 4 (by kernel_rfl) rfl) (eda_cons (ed_nm 3 (by kernel_rfl) rfl) (eda_cons (ed_nm 2 (by kernel_rfl) rfl) (eda_cons (ed_nm 1 (by kernel_rfl) rfl) eda_nil)))) ⟨o, P, s, i, q, c, x, rfl, O, Z, hi, by omega, hx, rfl⟩)))))))))) (fun h => x_one (xd_set nd 2 (by kernel_rfl) (ed_nm 3 (by kernel_rfl) rfl) ⟨rfl, some i, _, _, ?_, rfl⟩)) (fun h => x_nil ⟨rfl, some q, _, _, ?_, rfl⟩))
      · obtain ⟨h1, h2⟩ := Bool.and_eq_true_iff.mp h
        have hp : 0 < P.T s i x := of_decide_eq_true h1
        have hl2 : limF P s i q x = true := h2
        unfold limF at hl2
        rw [hR0 q hqm, Int.zero_mul, Bool.or_eq_true, Bool.and_eq_true, decide_eq_true_eq, decide_eq_true_eq, decide_eq_true_eq] at hl2
        have him : i < P.m := by
          refine Classical.byContradiction fun hn => ?_
          have e : i = P.m := by omega
          rw [e, hRm] at hl2
          have := Int.mul_pos O.pos hq2
          omega
        rw [hR0 i him, Int.zero_mul] at hl2
        refine ⟨by omega, hp, .inl ⟨him, fun k hk hkm hkp => ?_⟩⟩
        by_cases e : k = i
        · rw [e]; exact Nat.le_refl _
        · have := hql k (by omega) hkm hkp; omega
      · refine ⟨by omega, hq2, .inl ⟨hqm, fun k hk hkm hkp => ?_⟩⟩
        by_cases e : k = i
        · subst e
          rw [decide_eq_true hkp] at h
          have hl2 : limF P s k q x = false := h
          unfold limF at hl2
          rw [hR0 q hqm, Int.zero_mul, hR0 k hkm, Int.zero_mul, Bool.or_eq_false_iff] at hl2
          have h3 := hl2.2
          simp only [decide_true, Bool.true_and, decide_eq_false_iff_not] at h3
          omega
        · exact hql k (by omega) hkm hkp
  · subst en2 er
    refine x_one (x_ret (Ed.ev (ed_nm 2 (by kernel_rfl) rfl) ?_))
    have hlen : ((((P.rowsOf s).map lI).zipIdx).map fun p => Dat.tup [.int (p.2 : Nat), p.1]).length = P.m + 1 := by simp [Pb.rowsOf]
    rw [hlen] at hB
    cases b with
    | none =>
      have := hB P.m (by omega)
      omega
    | some q =>
      obtain ⟨hq1, hq2, hq3⟩ := hB
      show nI q = nI r
      congr 1
      rcases hL with ⟨z, l⟩ | ⟨rfl, hall⟩
      · rcases hq3 with ⟨h1, h2⟩ | ⟨_, h2⟩
        · have l2 : P.Lea s x q (s.bas.getD q 0) := ⟨h1, hb q (by omega), hq2, fun k z' hk hz' hp => by
            have := h2 k (by omega) hk hp
            rw [getD_of' hz'] at this
            exact this⟩
          exact (Lea.uniq O l2 l).1
        · have := h2 r l.lt
          have := l.pos
          omega
      · rcases hq3 with ⟨h1, h2⟩ | ⟨h1, _⟩
        · have := hall q h1
          omega
        · exact h1
end Kb
namespace Kb
open PySem PySem.Spec PyProof.Rows L2
def ptF (P : Pb) (s : Ns) (i : Nat) : List Int := (List.range P.nu).map fun j => sm i fun k => if s.bas.getD k 0 = j then P.T s k (P.nu + P.m) else 0
theorem ptF_len (P : Pb) (s : Ns) (i : Nat) : (ptF P s i).length = P.nu := by simp [ptF]
theorem ptF_zero (P : Pb) (s : Ns) : ptF P s 0 = List.replicate P.nu 0 := by
  unfold ptF
  apply List.ext_getElem?
  intro j
  rw [List.getElem?_map, List.getElem?_replicate]
  by_cases h : j < P.nu
  · rw [List.getElem?_range h, if_pos h]; rfl
  · rw [List.getElem?_eq_none (by simp; omega), if_neg h]; rfl
theorem ptF_same {P : Pb} {s : Ns} {i : Nat} (h : ¬ s.bas.getD i 0 < P.nu) : ptF P s (i + 1) = ptF P s i := by
  unfold ptF
  refine List.map_congr_left fun j hj => ?_
  have := List.mem_range.mp hj
  rw [sm_succ, if_neg (by omega), Int.add_zero]
theorem ptF_set {P : Pb} {s : Ns} (O : P.Ok s) {i : Nat} (hi : i < P.m + 1) (h : s.bas.getD i 0 < P.nu) : ptF P s (i + 1) = (ptF P s i).set (s.bas.getD i 0) (P.T s i (P.nu + P.m)) := by
  have hb : ∀ k, k < P.m + 1 → s.bas[k]? = some (s.bas.getD k 0) := fun k hk => getD_get (by rw [O.bl]; exact hk)
  apply List.ext_getElem?
  intro j
  rw [List.getElem?_set, ptF_len]
  unfold ptF
  rw [List.getElem?_map, List.getElem?_map]
  by_cases hj : j < P.nu
  · rw [List.getElem?_range hj]
    show some (sm (i + 1) fun k => if s.bas.getD k 0 = j then P.T s k (P.nu + P.m) else 0) = _
    rw [sm_succ]
    by_cases e : s.bas.getD i 0 = j
    · subst e
      rw [if_pos rfl, if_pos rfl, if_pos h, sm_none fun k hk => if_neg fun z => ?_, Int.zero_add]
      have := O.nd (hb k (by omega)) (by rw [z]; exact hb i hi)
      omega
    · rw [if_neg e, if_neg e, Int.add_zero]
      rfl
  · rw [List.getElem?_eq_none (by simp; omega), if_neg (by omega)]
    rfl
abbrev N_Table_point : List Str := ["self", "found", "name", "row"]
theorem sc_Table_point : FnScope N_Table_point ["self"] (defScope s_Table_point) := ⟨rfl, rfl, rfl, by decide +kernel, rfl, by decide +kernel, by decide +kernel⟩
def R_point (C : Addr) (ds : List Dat) (d : Dat) : Prop := ∃ (o : Addr) (P : Pb) (s : Ns), ds = [tblE o C P s] ∧ P.Ok s ∧ P.Sm ∧ d = lI (ptF P s (P.m + 1))
theorem zp2_at {xs ys : List Dat} {i : Nat} {x y : Dat} (h1 : xs[i]? = some x) (h2 : ys[i]? = some y) : (zp2 xs ys)[i]? = some (.tup [x, y]) := by
  unfold zp2
  rw [List.getElem?_map, List.zip, List.getElem?_zipWith, h1, h2]
  rfl
theorem rep_flat1 (n : Nat) (x : Dat) : (List.replicate n [x]).flatten = List.replicate n x := by simp
theorem ok_point {G : Gc} (H : Head G) : HasM G "point" 1 1 (PureSp 1 (R_point (tabC G))) := by
  refine H.pmeth (q := "Table.point") (st := s_Table_point) (ps := ["self"]) 18 88 (by kernel_rfl) (by kernel_rfl) sc_Table_point (fun _ _ _ _ _ _ us hl => match us, hl with | [_], _ => rfl) fun A hr ds d hl hR => ?_
  have nd := sc_Table_point.nd
  obtain ⟨o, P, s, rfl, O, Z, rfl⟩ := hR
  have hnu := Z.nu
  have hb : ∀ k, k < P.m + 1 → s.bas[k]? = some (s.bas.getD k 0) := fun k hk => getD_get (by rw [O.bl]; exact hk)
  refine x_cons (xd_setN (ds := (ptF P s 0).map Dat.int) nd 1 (by kernel_rfl) (by simp [startE]) (EdN.is (edn_op (EdN.ed (edn_lst (eda_cons ed_int eda_nil))) (ed_fldD H.cls (H.noat 90) (ed_nm 0 (by kernel_rfl) rfl) tf_size) (on_rep (by omega) (by omega) (by simp; omega))) ?_) ?_)
  · rw [ptF_zero, List.map_replicate, rep_flat1, Int.toNat_natCast]
  refine x_cons (x_for (EdI.ev (edi_zips2 (xs := s.bas.map nI) (ys := (P.rowsOf s).map lI) (by kernel_rfl) (H.free 79) (ed_fldD H.cls (H.noat 94) (ed_nm 0 (by kernel_rfl) rfl) tf_bas) (ed_fldD H.cls (H.noat 91) (ed_nm 0 (by kernel_rfl) rfl) tf_rows) (by exact rfl) (by exact rfl) (by simp [Pb.rowsOf, O.bl])) ⟨fun i n ρ => n = 0 ∧ ∃ a b, ρ = [.dat (tblE o (tabC G) P s), .own ((ptF P s i).map Dat.int), a, b], ⟨rfl, .no, .no, rfl⟩, fun i z n2 ρ2 hz ⟨en, a, b, er⟩ => ?_, fun n2 ρ2 ⟨en, a, b, er⟩ => ?_⟩))
  · subst en er
    have hi : i < P.m + 1 := by
      have := (List.getElem?_eq_some_iff.mp hz).1
      simpa [zp2, Pb.rowsOf, O.bl] using this
    have ez : z = .tup [nI (s.bas.getD i 0), lI (P.rowOf s i)] := by
      rw [zp2_at (get_map (hb i hi)) (rows_at i hi)] at hz
      exact (Option.some.inj hz).symm
    subst ez
    refine ⟨_, _, (gd_tup (gds_cons (gd_nm nd 2 (by kernel_rfl)) (gds_cons (gd_nm nd 3 (by kernel_rfl)) gds_nil))), ?_⟩
    refine x_one (xd_if (etd_cmp (ed_nm 2 (by kernel_rfl) rfl) (ed_fldD H.cls (H.noat 90) (ed_nm 0 (by kernel_rfl) rfl) tf_size) o_lt) (fun h => ?_) (fun h => x_nil ⟨rfl, .dat (nI (s.bas.getD i 0)), .dat (lI (P.rowOf s i)), ?_⟩))
    · have hlt : s.bas.getD i 0 < P.nu := by have := of_decide_eq_true h; omega
      refine x_one (x_put 1 (by kernel_rfl) rfl (Ed.ev (ed_ix (ed_nm 3 (by kernel_rfl) rfl) (ed_neg ed_int) (.lst (row_last O i))) (Ed.ev (ed_nm 2 (by kernel_rfl) rfl) ⟨_, s.bas.getD i 0, rfl, ixN_nat (by rw [List.length_map, ptF_len]; exact hlt), rfl, .dat (nI (s.bas.getD i 0)), .dat (lI (P.rowOf s i)), ?_⟩)))
      rw [ptF_set O hi hlt, map_set]
      rfl
    · have hlt : ¬ s.bas.getD i 0 < P.nu := by have := of_decide_eq_false h; omega
      rw [ptF_same hlt]
      rfl
  · subst en er
    have hlen : (zp2 (s.bas.map nI) ((P.rowsOf s).map lI)).length = P.m + 1 := by simp [zp2, Pb.rowsOf, O.bl]
    rw [hlen]
    exact x_freeze (i := 1) rfl (x_one (x_ret (Ed.ev (ed_nm 1 (by kernel_rfl) rfl) rfl)))
/-- the multipliers behind i columns -/
def mlF (P : Pb) (s : Ns) (i : Nat) : List Int := (List.range (P.m + 1)).map fun j => if P.nu + j ∈ s.cols.take i then P.T s (P.m + 1) (P.nu + j) else 0
theorem mlF_len (P : Pb) (s : Ns) (i : Nat) : (mlF P s i).length = P.m + 1 := by simp [mlF]
theorem mlF_zero (P : Pb) (s : Ns) : mlF P s 0 = List.replicate (P.m + 1) 0 := by
  unfold mlF
  apply List.ext_getElem?
  intro j
  rw [List.getElem?_map, List.getElem?_replicate]
  by_cases h : j < P.m + 1
  · rw [List.getElem?_range h, if_pos h]; simp
  · rw [List.getElem?_eq_none (by simp; omega), if_neg h]; rfl
theorem mlF_same {P : Pb} {s : Ns} {i x : Nat} (hx : s.cols[i]? = some x) (h : x < P.nu) : mlF P s (i + 1) = mlF P s i := by
  unfold mlF
  refine List.map_congr_left fun j hj => ?_
  rw [List.take_add_one, hx]
  simp only [Option.toList_some, List.mem_append, List.mem_singleton]
  have : ¬ P.nu + j = x := by omega
  simp [this]
theorem mlF_set {P : Pb} {s : Ns} {i x : Nat} (hx : s.cols[i]? = some x) (h : P.nu ≤ x) : mlF P s (i + 1) = (mlF P s i).set (x - P.nu) (P.T s (P.m + 1) x) := by
  apply List.ext_getElem?
  intro j
  rw [List.getElem?_set, mlF_len]
  unfold mlF
  rw [List.getElem?_map, List.getElem?_map]
  by_cases hj : j < P.m + 1
  · rw [List.getElem?_range hj]
    show some _ = _
    rw [List.take_add_one, hx]
    simp only [Option.toList_some, List.mem_append, List.mem_singleton]
    by_cases e : x - P.nu = j
    · have e2 : P.nu + j = x := by omega
      rw [if_pos (.inr e2), if_pos e, if_pos (by omega), e2]
    · have e2 : ¬ P.nu + j = x := by omega
      rw [if_neg e]
      simp [e2]
  · rw [List.getElem?_eq_none (by simp; omega)]
    split
    · rw [if_neg (by omega)]; rfl
    · rfl
theorem mlF_end {P : Pb} {s : Ns} (O : P.Ok s) : mlF P s P.nu = (List.range (P.m + 1)).map fun j => P.T s (P.m + 1) (P.nu + j) := by
  unfold mlF
  refine List.map_congr_left fun j hj => ?_
  have hj2 := List.mem_range.mp hj
  rw [List.take_of_length_le (by rw [O.cl]; exact Nat.le_refl _)]
  by_cases h : P.nu + j ∈ s.cols
  · rw [if_pos h]
  · rw [if_neg h]
    rcases O.all (P.nu + j) (by omega) with z | z
    · exact (G_bas O z).symm
    · exact absurd z h
abbrev N_Table_multipliers : List Str := ["self", "found", "column", "name"]
theorem sc_Table_multipliers : FnScope N_Table_multipliers ["self"] (defScope s_Table_multipliers) := ⟨rfl, rfl, rfl, by decide +kernel, rfl, by decide +kernel, by decide +kernel⟩
def R_multipliers (C : Addr) (ds : List Dat) (d : Dat) : Prop := ∃ (o : Addr) (P : Pb) (s : Ns), ds = [tblE o C P s] ∧ P.Ok s ∧ P.Sm ∧ d = lI (mlF P s P.nu)
theorem ok_multipliers {G : Gc} (H : Head G) : HasM G "multipliers" 1 1 (PureSp 1 (R_multipliers (tabC G))) := by
  refine H.pmeth (q := "Table.multipliers") (st := s_Table_multipliers) (ps := ["self"]) 19 89 (by kernel_rfl) (by kernel_rfl) sc_Table_multipliers (fun _ _ _ _ _ _ us hl => match us, hl with | [_], _ => rfl) fun A hr ds d hl hR => ?_
  have nd := sc_Table_multipliers.nd
  obtain ⟨o, P, s, rfl, O, Z, rfl⟩ := hR
  have hnu := Z.nu
  have hm := Z.m
  have hcl := O.cl
  have hrl : ((P.rowsOf s).map lI).length = P.m + 1 := by simp [Pb.rowsOf]
  refine x_cons (xd_setN (ds := (mlF P s 0).map Dat.int) nd 1 (by kernel_rfl) (by simp [startE]) (EdN.is (edn_op (EdN.ed (edn_lst (eda_cons ed_int eda_nil))) (ed_len (by kernel_rfl) (H.free 69) (ed_fldD H.cls (H.noat 91) (ed_nm 0 (by kernel_rfl) rfl) tf_rows) (by exact rfl)) (on_rep (by omega) (by omega) (by simp [Pb.rowsOf]; omega))) ?_) ?_)
  · rw [mlF_zero, List.map_replicate, rep_flat1, Int.toNat_natCast, hrl]
  refine x_cons (x_for (EdI.ev (edi_enum (by kernel_rfl) (H.free 66) (ed_fldD H.cls (H.noat 93) (ed_nm 0 (by kernel_rfl) rfl) tf_cols)) ⟨fun i n ρ => n = 0 ∧ ∃ a b, ρ = [.dat (tblE o (tabC G) P s), .own ((mlF P s i).map Dat.int), a, b], ⟨rfl, .no, .no, rfl⟩, fun i z n2 ρ2 hz ⟨en, a, b, er⟩ => ?_, fun n2 ρ2 ⟨en, a, b, er⟩ => ?_⟩))
  · subst en er
    have hi : i < s.cols.length := by
      have := (List.getElem?_eq_some_iff.mp hz).1
      simpa using this
    obtain ⟨x, hx⟩ : ∃ x, s.cols[i]? = some x := ⟨_, List.getElem?_eq_getElem hi⟩
    have hxn := O.cn x (List.mem_of_getElem? hx)
    have ez : z = .tup [nI i, nI x] := by
      rw [List.getElem?_map, zipIdx_at (get_map hx)] at hz
      exact (Option.some.inj hz).symm
    subst ez
    refine ⟨_, _, (gd_tup (gds_cons (gd_nm nd 2 (by kernel_rfl)) (gds_cons (gd_nm nd 3 (by kernel_rfl)) gds_nil))), ?_⟩
    refine x_one (xd_if (etd_cmp (ed_nm 3 (by kernel_rfl) rfl) (ed_fldD H.cls (H.noat 90) (ed_nm 0 (by kernel_rfl) rfl) tf_size) o_ge) (fun h => ?_) (fun h => x_nil ⟨rfl, .dat (nI i), .dat (nI x), ?_⟩))
    · have hge : P.nu ≤ x := by have := of_decide_eq_true h; omega
      have es : (x : Int) - (P.nu : Int) = ((x - P.nu : Nat) : Int) := by omega
      refine x_one (x_put 1 (by kernel_rfl) rfl (Ed.ev (ed_ix (ed_fldD H.cls (H.noat 92) (ed_nm 0 (by kernel_rfl) rfl) tf_goal) (ed_nm 2 (by kernel_rfl) rfl) (ixl_nat (get_map (rowOf_at (P.m + 1) hx)))) (Ed.ev (ed_op (ed_nm 3 (by kernel_rfl) rfl) (ed_fldD H.cls (H.noat 90) (ed_nm 0 (by kernel_rfl) rfl) tf_size) o_sub) ⟨_, x - P.nu, rfl, by rw [es]; exact ixN_nat (by rw [List.length_map, mlF_len]; omega), rfl, .dat (nI i), .dat (nI x), ?_⟩)))
      rw [mlF_set hx hge, map_set]
      rfl
    · have hge : x < P.nu := by have := of_decide_eq_false h; omega
      rw [mlF_same hx hge]
      rfl
  · subst en er
    have hlen : (((s.cols.map nI).zipIdx).map fun p => Dat.tup [.int (p.2 : Nat), p.1]).length = P.nu := by simp [O.cl]
    rw [hlen]
    exact x_freeze (i := 1) rfl (x_one (x_ret (Ed.ev (ed_nm 1 (by kernel_rfl) rfl) rfl)))
end Kb
/-! an instance that changes: statements at the heap itself -/
namespace Kb
open PySem PySem.Spec PyProof.Rows L2
section
variable {S : Sg} {M : Mu} {Hb H : Hp} {ad : Nat → Addr} {n : Nat} {σ : L2.St} {ρ ρ2 : En} {D' : Ends} {st : Stmt} {sts : List Stmt} {e value : Expr} {es ts : List Expr} {d : Dat} {ds : List Dat} {x f m : Str} {p pos pos' apos pt pt2 : Pos} {i : Nat} {o C dx : Addr} {fs : List (Str × V)} {v : V} {kt k2 : Nat}
theorem ws_cons (h : wS S st { D' with nx := fun σ' H' => wSs S sts D' σ' H' } σ H) : wSs S (st :: sts) D' σ H := ⟨tSeq (wS S st) (wSs S sts), fun X c => pss_cons (wS_ok c) (wSs_ok c), h⟩
theorem ws_one (h : wS S st D' σ H) : wSs S [st] D' σ H := ⟨wS S st, fun X c => pss_one (wS_ok c), h⟩
/-- a statement over data, from a state known -/
theorem ws_step (E : EnvOk wd0 M Hb ad n σ H ρ) (h : Ex1 S wd0 st ρ n { nx := fun n' ρ' => n' = n ∧ ρ' = ρ2, rt := fun _ _ => False }) (k : ∀ ad σ H, EnvOk wd0 M Hb ad n σ H ρ2 → wSs S sts D' σ H) : wSs S (st :: sts) D' σ H :=
  ws_cons (h M Hb ad σ H _ E ⟨fun n' ad' σ' H' ρ' E' e => k ad' σ' H' (by rw [← e.1, ← e.2]; exact E'), fun _ _ _ _ _ _ _ z => z.elim, fun _ _ _ _ _ _ z => z.elim, fun _ _ _ _ _ _ z => z.elim⟩)
theorem ws_last (E : EnvOk wd0 M Hb ad n σ H ρ) (h : Ex1 S wd0 st ρ n { nx := fun n' ρ' => n' = n ∧ ρ' = ρ2, rt := fun _ _ => False }) (k : ∀ ad σ H, EnvOk wd0 M Hb ad n σ H ρ2 → D'.nx σ H) : wSs S [st] D' σ H :=
  ws_one (h M Hb ad σ H _ E ⟨fun n' ad' σ' H' ρ' E' e => k ad' σ' H' (by rw [← e.1, ← e.2]; exact E'), fun _ _ _ _ _ _ _ z => z.elim, fun _ _ _ _ _ _ z => z.elim, fun _ _ _ _ _ _ z => z.elim⟩)
theorem Ed.go (h : Ed S wd0 e ρ d) (E : EnvOk wd0 M Hb ad n σ H ρ) {Q : VK} (q : ∀ v H', Same H H' → At (Mx M ad ρ) H' d v → Q v H') : wE S e σ H Q := h n M Hb ad σ H E Q fun n' v H' d' k j a ⟨e1, e2⟩ => by
  subst e2
  exact q v H' (Kw.same k) a
theorem EdN.go (h : EdN S wd0 e ρ ds) (E : EnvOk wd0 M Hb ad n σ H ρ) {Q : VK} (q : ∀ p us H', H p = none → Same H H' → H' p = some (.lst us) → Ats (fun a => Mx M ad ρ a ∨ a = p) H' ds us → Q (.ref p) H') : wE S e σ H Q := h n M Hb ad σ H E Q fun n' p us H' d' f k j hp a ⟨e1, e2⟩ => by
  subst e2
  exact q p us H' f (Kw.same k) hp a
theorem EdA.go (h : EdA S wd0 es ρ ds) (E : EnvOk wd0 M Hb ad n σ H ρ) {Q : List V → Hp → Prop} (q : ∀ vs H', Same H H' → Ats (Mx M ad ρ) H' ds vs → Q vs H') : wA S es σ H Q := h n M Hb ad σ H E Q fun n' v H' d' k j a ⟨e1, e2⟩ => by
  subst e2
  exact q v H' (Kw.same k) a
theorem EdT.go {b : Bool} (h : EdT S wd0 e ρ b) (E : EnvOk wd0 M Hb ad n σ H ρ) {Q : Bool → Hp → Prop} (q : ∀ H', Same H H' → Q b H') : wT S e σ H Q := h n M Hb ad σ H E Q fun n' b' H' k j ⟨e1, e2⟩ => by
  subst e2
  exact q H' (Kw.same k)
/-- a state looked at -/
theorem view (al : ∀ a, M a → ∃ o, H a = some o) (hl : σ.length = ρ.length) (hd : ∀ (i : Nat) d, ρ[i]? = some (.dat d) → ∃ v, σ[i]? = some (some v) ∧ At M H d v) (ho : NoOwn ρ) (hr : ∀ (i : Nat) a, ρ[i]? = some (.raw a) → σ[i]? = some (some (.ref a))) : EnvOk wd0 M H (fun _ => 0) 0 σ H ρ where
  kp := Kw.refl H
  j := trivial
  wm := fun _ z => z.elim
  al := al
  len := hl
  dat := fun i d e => by
    obtain ⟨v, h1, h2⟩ := hd i d e
    exact ⟨v, h1, h2.mono (noOwn_mx ho) fun _ _ _ z => z⟩
  own := fun i ds e => absurd e (ho i ds)
  raw := hr
  inj := fun i _ ds _ e => absurd e (ho i ds)
theorem wE_nm (hn : nmB S.N S.sc i x = true) (h : σ[i]? = some (some v)) {Q : VK} (q : Q v H) : wE S (.Name x p) σ H Q := ⟨tVar i, fun X c => pe_nm c hn, v, h, q⟩
/-- self.f -/
theorem wE_fld (hn : nmB S.N S.sc i x = true) (h : σ[i]? = some (some (.ref o))) (ho : H o = some (.ins C dx fs)) (cls : Cls S.K C) (na : NoAttr S.K C f) (hl : fs.lookup f = some v) {Q : VK} (q : Q v H) (hb : ∀ env, attributeBase (.Name x p) f env (eval (.Name x p) env) = eval (.Name x p) env := by intro _; rfl) : wE S (.Attribute (.Name x p) f pos) σ H Q :=
  ⟨tFld S.K (tVar i) f, fun X c => by rw [← c.K]; exact pe_fld (pe_nm c hn) (hb _), .ref o, h, o, C, dx, fs, v, rfl, ho, cls, na, hl, q⟩
/-- self.f = e -/
theorem wS_fld (hn : nmB S.N S.sc i x = true) (h : sFld S.K (tVar i) (wE S value) f D' σ H) (hs : ∀ env, swapsWith value (some (.Attribute (.Name x p) f pos')) pos.line env = pure false := by intro _; rfl) : wS S (.Assign [.Attribute (.Name x p) f pos'] value pos) D' σ H :=
  ⟨sFld S.K (tVar i) (wE S value) f, fun X c => by rw [← c.K]; exact ps_fld (pe_nm c hn) (wE_ok c) (hs _), h⟩
def gFld (K : PySem.W.Frag) (to : TE) (f : Str) : TG := fun v σ H Q => to σ H fun x H1 => ∃ a C dx fs, x = .ref a ∧ H1 a = some (.ins C dx fs) ∧ Cls K C ∧ NoAttr K C f ∧ fs.length < 1000 ∧ Q σ (upd H1 a (.ins C dx (putF f v fs)))
theorem pg_fld {X : Cx} {oe : Expr} {to : TE} (ho : PE X oe to) : PG X (.Attribute oe f pos) (gFld X.K to f) := by
  refine ⟨fun pins s σ H v u Q I r h => ?_⟩
  rw [arm_assign_Attribute]
  refine wpAny_bind (wpAny_holding (thn (ho.run pins s σ H _ I h) fun ov s1 ⟨x, H1, I1, r1, a, C, dx, fs, ex, ea, c, n, l, q⟩ => ?_))
  subst ex
  obtain rfl : ov = Value.ref a := r1
  refine wpAny_bind (wpAny_standAt (wpAny_bind (wpAny_holding (setattr_ok I1 ea c n l r fun s3 I3 => ?_))))
  exact wpAny_release ⟨σ, _, I3, q⟩
theorem pg_self {X : Cx} (c : Cl S X) (hn : nmB S.N S.sc i x = true) : PG X (.Attribute (.Name x p) f pos) (gFld S.K (tVar i) f) := by
  rw [← c.K]
  exact pg_fld (pe_nm c hn)
/-- a, b, .. = x, y, .. through a tuple, any targets -/
theorem wS_tup {u : TGs} (k : Nat) (hg : ∀ X, Cl S X → PGs X ts u) (h : tAsg (tTup (wA S es)) (gTup S.K k u) D' σ H)
    (hw : swappedStores [.Tuple ts kt pt] (.Tuple es k2 pt2) (envOf S.sc) = pure none) (hs : ∀ env, swapsWithSole [.Tuple ts kt pt] (.Tuple es k2 pt2) pos.line env = pure false := by intro _; rfl) (h1 : ∀ env, (assignEach [.Tuple ts kt pt] env).map (·.2) = [assign (.Tuple ts kt pt) env] := by intro _; rfl)
    (hlt : ∀ env, (assignEach ts env).length = k := by intro _; rfl) (hst : ∀ env, (assignEach ts env).findIdx? (·.1) = none := by intro _; rfl) : wS S (.Assign [.Tuple ts kt pt] (.Tuple es k2 pt2) pos) D' σ H :=
  ⟨tAsg (tTup (wA S es)) (gTup S.K k u), fun X c => ps_asg (pe_tup (wA_ok c)) (by rw [← c.K]; exact pg_tup c.calm (hg X c) (hlt _) (hst _)) (hs _) (by rw [swapped_of c.sc]; exact hw) (h1 _), h⟩
/-- self.m(..) as a call that changes things -/
theorem wE_meth {k np : Nat} {sp : Sp} {Q : VK} (F : HasM S.gc m k np sp) (cls : Cls S.K (tabC S.gc)) (hr : Room k S.A) (hn : nmB S.N S.sc i x = true) (h : tMeth (tabC S.gc) m sp [] E0 (tVar i) (wA S (e :: es)) σ H Q)
    (he : ∀ env, starEach (e :: es) env = (false, eval e env) :: starEach es env := by intro _; rfl) (hpl : ∀ env, (backTo pos (starEach es env)).any (·.1) = false := by intro _; rfl)
    (ht : ∀ env, ∃ pl : Sem Bool, eval (.Call (.Attribute (.Name x p) m apos) (e :: es) [] pos) env = (do
      let ov ← eval (.Name x p) env
      standAt apos.atName
      let (f, first) ← holding [ov] (getMethod ov m pl)
      callWith pos f first (backTo pos (starEach (e :: es) env)) (backToKw pos (keywordEach [] env))) := by intro _; exact ⟨_, rfl⟩) : wE S (.Call (.Attribute (.Name x p) m apos) (e :: es) [] pos) σ H Q := by
  obtain ⟨fd, ps, h1, h2, h3, h4⟩ := F
  refine ⟨_, fun X c => ?_, h⟩
  have F' : FnOk X.prog X.w X.K X.mg X.base CX0 k (He.ma S.gc.K (tabC S.gc) m) fd ps sp := by rw [c.P, c.w, c.K, c.mg, c.base]; exact h4
  obtain ⟨pl, ht⟩ := ht X.env
  exact pe_meth (pl := pl) (pe_nm c hn) (by rw [c.K]; exact cls) (by rw [c.K]; exact h1) F' (by rw [c.A]; exact hr) (by rw [c.K]; exact h2) .nil pass0 (wA_ok c) (he _) (hpl _) ht
theorem wE_meth0 {k np : Nat} {sp : Sp} {Q : VK} (F : HasM S.gc m k np sp) (cls : Cls S.K (tabC S.gc)) (hr : Room k S.A) (hn : nmB S.N S.sc i x = true) (h : tMeth (tabC S.gc) m sp [] E0 (tVar i) tNil σ H Q)
    (ht : ∀ env, ∃ pl : Sem Bool, eval (.Call (.Attribute (.Name x p) m apos) [] [] pos) env = (do
      let ov ← eval (.Name x p) env
      standAt apos.atName
      let (f, first) ← holding [ov] (getMethod ov m pl)
      callWith pos f first (backTo pos (starEach [] env)) (backToKw pos (keywordEach [] env))) := by intro _; exact ⟨_, rfl⟩) : wE S (.Call (.Attribute (.Name x p) m apos) [] [] pos) σ H Q := by
  obtain ⟨fd, ps, h1, h2, h3, h4⟩ := F
  refine ⟨_, fun X c => ?_, h⟩
  have F' : FnOk X.prog X.w X.K X.mg X.base CX0 k (He.ma S.gc.K (tabC S.gc) m) fd ps sp := by rw [c.P, c.w, c.K, c.mg, c.base]; exact h4
  obtain ⟨pl, ht⟩ := ht X.env
  exact pe_meth0 (pl := pl) (pe_nm c hn) (by rw [c.K]; exact cls) (by rw [c.K]; exact h1) F' (by rw [c.A]; exact hr) (by rw [c.K]; exact h2) .nil pass0 ht
theorem wS_expr (h : tDrop (wE S e) D' σ H) (hs : ∀ env, swapsWith e none pos.line env = pure false := by intro _; rfl) : wS S (.Expr e pos) D' σ H := ⟨_, fun X c => ps_expr (wE_ok c) (hs _), h⟩
/-- Table(..) -/
theorem wE_make {k np : Nat} {sp : Sp} {Q : VK} {c0 : Expr} (F : ∃ fd ps, Mk S.gc.K (tabC S.gc) (He.ma S.gc.K (tabC S.gc) "__init__") ∧ Binds S.gc.K fd ps [] ∧ ps.length = np ∧ FnOk S.gc.P S.gc.w S.gc.K S.gc.mg S.gc.base CX0 k (He.ma S.gc.K (tabC S.gc) "__init__") fd ps sp) (hr : Room (k + 1) S.A) (hg : glB S.sc x = true) (hm : S.mg x = some (.ref (tabC S.gc))) (h : tMake (tabC S.gc) sp [] E0 (wA S (e :: es)) σ H Q)
    (he : ∀ env, starEach (e :: es) env = (false, eval e env) :: starEach es env := by intro _; rfl) (hpl : ∀ env, (backTo pos (starEach es env)).any (·.1) = false := by intro _; rfl) : wE S (.Call (.Name x p) (e :: es) [] pos) σ H Q := by
  obtain ⟨fd, ps, h1, h2, h3, h4⟩ := F
  refine ⟨_, fun X c => ?_, h⟩
  have F' : FnOk X.prog X.w X.K X.mg X.base CX0 k (He.ma S.gc.K (tabC S.gc) "__init__") fd ps sp := by rw [c.P, c.w, c.K, c.mg, c.base]; exact h4
  exact pe_make (by rw [c.K]; exact h1) F' (by rw [c.A]; exact hr) (gl_of c hg) (by rw [c.mg]; exact hm) (by rw [c.K]; exact h2) .nil pass0 (wA_ok c) (glB_ok hg).2 (he _) (hpl _)
end
section
variable {G : Gc}
theorem Head.rmeth (H : Head G) {x q : Str} {st : Stmt} {N ps : List Str} {k : Nat} {sp : Sp} (i j : Nat) (hi : fn[i]? = some ⟨("Table", some x), x, q, defArgs st, defBody st, defScope st, [], []⟩) (hj : fa[j]? = some (.meth "Table" x)) (Sc : FnScope N ps (defScope st))
    (hb : ∀ (kV doc pm : Value) (an : Option Addr) (cdv ct : Value) (us : List Value), us.length = ps.length → bindArgs (PySem.W.fnOf x q (defArgs st) (defBody st) (defScope st) .none kV doc pm an cdv ct) ⟨us, []⟩ = Pure.pure (ps.zip us))
    (len : ∀ vs H Q E, sp vs H Q E → vs.length = ps.length) (h : ∀ A, Room k A → ∀ vs H Q E, sp vs H Q E → wSs (G.sg A N (defScope st)) (defBody st) { nx := fun _ H' => Q .non H', rt := Q } (L2.start N vs) H) : HasM G x (k + 1) ps.length sp := by
  obtain ⟨fd, F⟩ := H.says.def_ i hi
  refine ⟨fd, ps, H.mth j hj, F.bindsN hb, rfl, F.ok Sc len fun cdv A outer s Hh vs Q E hr hsp => ?_⟩
  exact ⟨wSs (G.sg (A.deeper (envOfC q (defScope st) s.heap.objs.size _ cdv)) N (defScope st)) (defBody st), (wSs_ok cl_def).nox, h _ hr vs Hh Q E hsp⟩
end
/-! the table at its place -/
def Nt (N : Mu) (o cs bs : Addr) : Mu := fun a => N a ∨ a = o ∨ a = cs ∨ a = bs
def natV (l : List Nat) : List V := l.map fun i => V.int (i : Nat)
def tabFs (P : Pb) (s : Ns) (rv gv : V) (cs bs : Addr) : List (Str × V) := [("size", .int (P.nu : Nat)), ("rows", rv), ("goal", gv), ("columns", .ref cs), ("basis", .ref bs), ("denominator", .int (P.D s))]
structure TabAt (N : Mu) (H : Hp) (C o cs bs : Addr) (P : Pb) (s : Ns) : Prop where
  ne : o ≠ cs ∧ o ≠ bs ∧ cs ≠ bs
  nn : ¬ N o ∧ ¬ N cs ∧ ¬ N bs
  ob : ∃ dx rv gv, H o = some (.ins C dx (tabFs P s rv gv cs bs)) ∧ At (Nt N o cs bs) H (.lst ((P.rowsOf s).map lI)) rv ∧ At (Nt N o cs bs) H (lI (P.rowOf s (P.m + 1))) gv
  co : H cs = some (.lst (natV s.cols))
  ba : H bs = some (.lst (natV s.bas))
section
variable {N M : Mu} {H H' : Hp} {C o cs bs : Addr} {P : Pb} {s : Ns}
theorem ats_nat {l : List Nat} : Ats M H (l.map nI) (natV l) := by
  rw [nI_map]
  unfold natV
  have : (l.map fun i => V.int (i : Nat)) = (l.map fun i => ((i : Nat) : Int)).map V.int := by rw [List.map_map]; rfl
  rw [this]
  exact Ats.of_ints
theorem TabAt.same (T : TabAt N H C o cs bs P s) (e : Same H H') : TabAt N H' C o cs bs P s := by
  obtain ⟨dx, rv, gv, h1, h2, h3⟩ := T.ob
  exact ⟨T.ne, T.nn, ⟨dx, rv, gv, e _ _ h1, h2.same e, h3.same e⟩, e _ _ T.co, e _ _ T.ba⟩
theorem nt_n {a : Addr} (h : N a) : Nt N o cs bs a := .inl h
theorem TabAt.full (T : TabAt N H C o cs bs P s) : At N H (tblE o C P s) (.ref o) := by
  obtain ⟨dx, rv, gv, h1, h2, h3⟩ := T.ob
  refine At.obj T.nn.1 h1 (vs := [.int (P.nu : Nat), rv, gv, .ref cs, .ref bs, .int (P.D s)]) (fun f hf => by simpa [tabFs] using hf) rfl ?_
  refine Ats.cons At.int (Ats.cons (h2.mono (fun _ z => .inl z) fun _ _ _ z => z) (Ats.cons (h3.mono (fun _ z => .inl z) fun _ _ _ z => z) (Ats.cons (At.lst T.nn.2.1 T.co ats_nat) (Ats.cons (At.lst T.nn.2.2 T.ba ats_nat) (Ats.one At.int)))))
/-- all but the names -/
def tblP (o C : Addr) (P : Pb) (s : Ns) : Dat := .obj o C ["rows", "goal", "denominator"] [.lst ((P.rowsOf s).map lI), lI (P.rowOf s (P.m + 1)), .int (P.D s)]
theorem tp_rows : FldD (tblP o C P s) C "rows" (.lst ((P.rowsOf s).map lI)) := ⟨_, _, _, 0, rfl, rfl, rfl⟩
theorem tp_goal : FldD (tblP o C P s) C "goal" (lI (P.rowOf s (P.m + 1))) := ⟨_, _, _, 1, rfl, rfl, rfl⟩
theorem tp_den : FldD (tblP o C P s) C "denominator" (.int (P.D s)) := ⟨_, _, _, 2, rfl, rfl, rfl⟩
def Np (N : Mu) (cs bs : Addr) : Mu := fun a => N a ∨ a = cs ∨ a = bs
theorem TabAt.part (T : TabAt N H C o cs bs P s) : At (Np N cs bs) H (tblP o C P s) (.ref o) := by
  obtain ⟨dx, rv, gv, h1, h2, h3⟩ := T.ob
  have sub : ∀ a, Np N cs bs a → Nt N o cs bs a := fun a z => z.elim .inl fun z => .inr (.inr z)
  refine At.obj (fun z => z.elim T.nn.1 fun z => z.elim T.ne.1 T.ne.2.1) h1 (vs := [rv, gv, .int (P.D s)]) (fun f hf => by simpa [tabFs] using hf) rfl ?_
  exact Ats.cons (h2.mono sub fun _ _ _ z => z) (Ats.cons (h3.mono sub fun _ _ _ z => z) (Ats.one At.int))
/-- the names alone -/
def tblN (o C : Addr) (s : Ns) : Dat := .obj o C ["columns", "basis"] [.lst (s.cols.map nI), .lst (s.bas.map nI)]
theorem tn_cols : FldD (tblN o C s) C "columns" (.lst (s.cols.map nI)) := ⟨_, _, _, 0, rfl, rfl, rfl⟩
theorem tn_bas : FldD (tblN o C s) C "basis" (.lst (s.bas.map nI)) := ⟨_, _, _, 1, rfl, rfl, rfl⟩
/-- lists of ints at no place of another kind -/
theorem at_lI_off {a : Addr} (ha : ∀ us, H a ≠ some (.lst us)) {xs : List Int} {v : V} (h : At M H (lI xs) v) : At (fun b => M b ∨ b = a) H (lI xs) v := by
  obtain ⟨b, vs, rfl, nb, hb, hs⟩ := at_lst h
  exact At.lst (fun z => z.elim nb fun z => ha vs (by rw [← z]; exact hb)) hb (by rw [hs.ints]; exact Ats.of_ints)
theorem ats_lI_off {a : Addr} (ha : ∀ us, H a ≠ some (.lst us)) : ∀ {rs : List (List Int)} {vs : List V}, Ats M H (rs.map lI) vs → Ats (fun b => M b ∨ b = a) H (rs.map lI) vs
  | [], vs, h => by rw [h.nil_inv]; exact Ats.nil
  | r :: rs, vs, h => by
    obtain ⟨v, us, rfl, h1, h2⟩ := h.cons_inv
    exact Ats.cons (at_lI_off ha h1) (ats_lI_off ha h2)
theorem at_rows_off {a : Addr} (ha : ∀ us, H a ≠ some (.lst us)) {rs : List (List Int)} {v : V} (h : At M H (.lst (rs.map lI)) v) : At (fun b => M b ∨ b = a) H (.lst (rs.map lI)) v := by
  obtain ⟨b, vs, rfl, nb, hb, hs⟩ := at_lst h
  exact At.lst (fun z => z.elim nb fun z => ha vs (by rw [← z]; exact hb)) hb (ats_lI_off ha hs)
end
end Kb
namespace Kb
open PySem PySem.Spec PyProof.Rows L2
def ExSp (C : Addr) : Sp := fun vs H Q _ => ∃ (N : Mu) (o cs bs : Addr) (P : Pb) (s : Ns) (c r x z : Nat), vs = [.ref o, .int (r : Nat), .int (c : Nat)] ∧ (∀ a, N a → ∃ ob, H a = some ob) ∧ TabAt N H C o cs bs P s ∧ P.Ok s ∧ P.Sm ∧ s.cols[c]? = some x ∧ s.bas[r]? = some z ∧ 0 < P.T s r x ∧
  ∀ H', (∀ a ob, a ≠ o → a ≠ cs → a ≠ bs → H a = some ob → H' a = some ob) → TabAt N H' C o cs bs P (s.swap r c) → Q .non H'
theorem natV_set (l : List Nat) (i x : Nat) : (natV l).set i (.int (x : Nat)) = natV (l.set i x) := by
  unfold natV
  rw [map_set]
theorem ats3 {M : Mu} {H : Hp} {d1 d2 d3 : Dat} {vs : List V} (h : Ats M H [d1, d2, d3] vs) : ∃ u v w, vs = [u, v, w] ∧ At M H d1 u ∧ At M H d2 v ∧ At M H d3 w := by
  obtain ⟨u, r, rfl, h1, h2⟩ := h.cons_inv
  obtain ⟨v, w, rfl, h3, h4⟩ := ats2 h2
  exact ⟨u, v, w, rfl, h1, h3, h4⟩
abbrev N_Table_exchange : List Str := ["self", "index", "column", "chosen", "rows", "goal", "last", "row"]
theorem sc_Table_exchange : FnScope N_Table_exchange ["self", "index", "column"] (defScope s_Table_exchange) := ⟨rfl, rfl, rfl, by decide +kernel, rfl, by decide +kernel, by decide +kernel⟩
theorem ok_exchange {G : Gc} (H : Head G) : HasM G "exchange" 2 3 (ExSp (tabC G)) := by
  refine H.rmeth (q := "Table.exchange") (st := s_Table_exchange) (ps := ["self", "index", "column"]) 13 83 (by kernel_rfl) (by kernel_rfl) sc_Table_exchange (fun _ _ _ _ _ _ us hl => match us, hl with | [_, _, _], _ => rfl) (fun vs Hh Q E ⟨_, _, _, _, _, _, _, _, _, _, e, _⟩ => by rw [e]; rfl) fun A hr vs H0 Q E hsp => ?_
  have nd := sc_Table_exchange.nd
  obtain ⟨N, o, cs, bs, P, s, c, r, x, z, rfl, al, T, O, Z, hx, hz, hp, q⟩ := hsp
  have hrl : r < P.m + 1 := by have := (List.getElem?_eq_some_iff.mp hz).1; rw [O.bl] at this; exact this
  have hcl : c < P.nu := by have := (List.getElem?_eq_some_iff.mp hx).1; rw [O.cl] at this; exact this
  have hm := Z.m
  have hnu := Z.nu
  have hlr := fun k => rowOf_len O k
  have hbr := fun k => row_bd O Z k
  have alp : ∀ a, Np N cs bs a → ∃ ob, H0 a = some ob := fun a h => by
    rcases h with h | h | h
    · exact al a h
    · exact ⟨_, by rw [h]; exact T.co⟩
    · exact ⟨_, by rw [h]; exact T.ba⟩
  have red : ∀ k, R_reduced (tabC G) [tblP o (tabC G) P s, lI (P.rowOf s k), lI (P.rowOf s r), nI c] (lI (redF (P.rowOf s k) (P.rowOf s r) c (P.D s))) := fun k =>
    ⟨_, _, _, c, _, rfl, tp_den, by rw [hlr, hlr], by rw [hlr]; omega, by rw [hlr]; omega, O.pos, D_bd O Z, hbr k, hbr r, rfl⟩
  have E0 := env_start (g := wd0) (M := Np N cs bs) (H := H0) (N := N_Table_exchange) (ds := [tblP o (tabC G) P s, nI r, nI c]) (vs := [.ref o, .int (r : Nat), .int (c : Nat)]) (k := 0) [] alp (Ats.cons T.part (Ats.cons At.int (Ats.one At.int))) trivial (fun _ z => z.elim) (by simp) (fun _ => 0)
  refine ws_step E0 (xd_set nd 3 (by kernel_rfl) (ed_ix (ed_fldD H.cls (H.noat 91) (ed_nm 0 (by kernel_rfl) rfl) tp_rows) (ed_nm 1 (by kernel_rfl) rfl) (ixl_nat (rows_at r hrl))) ⟨rfl, rfl⟩) fun ad1 σ1 H1 E1 => ?_
  refine ws_step E1 (x_setLcM nd 4 (by kernel_rfl) [("row", 7)] (by kernel_rfl) (ys := P.rowsOf s) (enc := lI) (f := fun row => lI (redF row (P.rowOf s r) c (P.D s))) (edi_lst (ed_fldD H.cls (H.noat 91) (ed_nm 0 (by kernel_rfl) rfl) tp_rows)) (by simp [Pb.rowsOf]; omega) (fun y hy => ⟨_, _, (by simp), (gd_nm nd 7 (by kernel_rfl)), by
    obtain ⟨k, hk, rfl⟩ := List.mem_map.mp hy
    exact (ed_meth (ok_reduced H) H.cls (hr.mono (by decide)) (ed_nm 0 (by kernel_rfl) rfl) (by decide) (eda_cons (ed_nm 7 (by kernel_rfl) rfl) (eda_cons (ed_nm 3 (by kernel_rfl) rfl) (eda_cons (ed_nm 2 (by kernel_rfl) rfl) eda_nil))) (red k))⟩) (.inr ⟨by simp [startE], rfl, rfl⟩)) fun ad2 σ2 H2 E2 => ?_
  refine ws_step E2 (xd_set nd 5 (by kernel_rfl) (ed_meth (ok_reduced H) H.cls (hr.mono (by decide)) (ed_nm 0 (by kernel_rfl) rfl) (by decide) (eda_cons (ed_fldD H.cls (H.noat 92) (ed_nm 0 (by kernel_rfl) rfl) tp_goal) (eda_cons (ed_nm 3 (by kernel_rfl) rfl) (eda_cons (ed_nm 2 (by kernel_rfl) rfl) eda_nil))) (red (P.m + 1))) ⟨rfl, rfl⟩) fun ad3 σ3 H3 E3 => ?_
  refine ws_step E3 (xd_setN nd 6 (by kernel_rfl) (by simp [startE]) (edn_listL (by kernel_rfl) (H.free 70) (ed_nm 3 (by kernel_rfl) rfl)) ⟨rfl, rfl⟩) fun ad4 σ4 H4 E4 => ?_
  refine ws_step E4 (x_put 6 (by kernel_rfl) rfl (Ed.ev (ed_fldD H.cls (H.noat 95) (ed_nm 0 (by kernel_rfl) rfl) tp_den) (Ed.ev (ed_nm 2 (by kernel_rfl) rfl) ⟨_, c, rfl, ixN_nat (by rw [List.length_map, hlr]; omega), rfl, rfl⟩))) fun ad5 σ5 H5 E5 => ?_
  refine ws_step E5 (x_freeze1 (i := 6) rfl (x_put 4 (by kernel_rfl) rfl (Ed.ev (ed_nm 6 (by kernel_rfl) rfl) (Ed.ev (ed_nm 1 (by kernel_rfl) rfl) ⟨_, r, rfl, ixN_nat (by simp [Pb.rowsOf]; omega), rfl, rfl⟩)))) fun ad6 σ6 H6 E6 => ?_
  have E7 := E6.freeze (i := 4) rfl
  obtain ⟨v0, hσ0, a0⟩ := E7.dat 0 _ rfl
  obtain ⟨_, _, _, rfl, _⟩ := at_obj a0
  obtain ⟨v1, hσ1, a1⟩ := E7.dat 1 _ rfl
  obtain ⟨v2, hσ2, a2⟩ := E7.dat 2 _ rfl
  have e1 := at_int a1
  have e2 := at_int a2
  subst e1 e2
  obtain ⟨dx, rv, gv, ho, _, _⟩ := T.ob
  have k6 : Same H0 H6 := Kw.same E6.kp
  refine ws_cons (wS_tup (u := gCons (gFld G.K (tVar 0) "rows") (gCons (gFld G.K (tVar 0) "goal") (gCons (gFld G.K (tVar 0) "denominator") gNil))) 3 (fun X cl => pgs_cons (pg_self (i := 0) cl (by kernel_rfl)) (pgs_cons (pg_self (i := 0) cl (by kernel_rfl)) (pgs_cons (pg_self (i := 0) cl (by kernel_rfl)) pgs_nil))) ?_ (by kernel_rfl))
  refine EdA.go (ds := [.lst ((P.rowsOf (s.swap r c)).map lI), lI (P.rowOf (s.swap r c) (P.m + 1)), .int (P.T s r x)]) (eda_cons (Ed.is (ed_nm 4 (by kernel_rfl) rfl) ?_) (eda_cons (Ed.is (ed_nm 5 (by kernel_rfl) rfl) ?_) (eda_cons (ed_ix (ed_nm 3 (by kernel_rfl) rfl) (ed_nm 2 (by kernel_rfl) rfl) (ixl_nat (get_map (rowOf_at r hx)))) eda_nil))) E7 fun vs H7 s7 a7 => ?_
  · rw [← rows_swap O hx hz]
    simp [map_set, lI, Function.comp_def]
  · rw [← red_row O hx hz (by omega) (by omega)]
  obtain ⟨u1, u2, u3, rfl, b1, b2, b3⟩ := ats3 (a7.mono (M' := Np N cs bs) (fun a z => .inl z) fun _ _ _ z => z)
  have b3' := at_int b3
  subst b3'
  have k7 : Same H0 H7 := fun a ob e => s7 _ _ (k6 _ _ e)
  refine ⟨by show 3 ≤ sizeLine; decide, fun T0 hT => ⟨T0, [u1, u2, .int (P.T s r x)], rfl, SqT.of upd_same, rfl, ?_⟩⟩
  have n0 : o ≠ T0 := fun e => by rw [← e, k7 _ _ ho] at hT; cases hT
  refine ⟨u1, [u2, .int (P.T s r x)], rfl, .ref o, hσ0, o, tabC G, dx, tabFs P s rv gv cs bs, rfl, by rw [upd_ne n0]; exact k7 _ _ ho, H.cls, H.noat 91, by show 6 < 1000; decide, ?_⟩
  refine ⟨u2, [.int (P.T s r x)], rfl, .ref o, hσ0, o, tabC G, dx, _, rfl, upd_same, H.cls, H.noat 92, by show 6 < 1000; decide, ?_⟩
  refine ⟨.int (P.T s r x), [], rfl, .ref o, hσ0, o, tabC G, dx, _, rfl, upd_same, H.cls, H.noat 95, by show 6 < 1000; decide, rfl, ?_⟩
  obtain ⟨H9, eH9⟩ : ∃ H9, H9 = upd (upd (upd (upd H7 T0 (.tup [u1, u2, .int (P.T s r x)])) o (.ins (tabC G) dx (putF "rows" u1 (tabFs P s rv gv cs bs)))) o (.ins (tabC G) dx (putF "goal" u2 (putF "rows" u1 (tabFs P s rv gv cs bs))))) o (.ins (tabC G) dx (putF "denominator" (.int (P.T s r x)) (putF "goal" u2 (putF "rows" u1 (tabFs P s rv gv cs bs))))) := ⟨_, rfl⟩
  rw [← eH9]
  have eD : P.D (s.swap r c) = P.T s r x := by rw [swap_eq hx hz]; exact D_exch O hrl _
  have ho9 : H9 o = some (.ins (tabC G) dx (tabFs P (s.swap r c) u1 u2 cs bs)) := by
    rw [eH9, upd_same]
    unfold tabFs
    rw [eD]
    rfl
  have k9 : ∀ a ob, a ≠ o → H7 a = some ob → H9 a = some ob := fun a ob h e => by
    rw [eH9, upd_ne h, upd_ne h, upd_ne h]
    exact same_new hT _ _ e
  have hc9 : H9 cs = some (.lst (natV s.cols)) := k9 _ _ (Ne.symm T.ne.1) (k7 _ _ T.co)
  have hb9 : H9 bs = some (.lst (natV s.bas)) := k9 _ _ (Ne.symm T.ne.2.1) (k7 _ _ T.ba)
  have hlen : σ6.length = 8 := E7.len
  have al9 : ∀ a, N a → ∃ ob, H9 a = some ob := fun a h => by
    obtain ⟨ob, e⟩ := al a h
    exact ⟨ob, k9 _ _ (fun z => T.nn.1 (by rw [← z]; exact h)) (k7 _ _ e)⟩
  have aN : At N H9 (tblN o (tabC G) s) (.ref o) := At.obj T.nn.1 ho9 (vs := [.ref cs, .ref bs]) (fun f hf => by simpa [tabFs] using hf) rfl (Ats.cons (At.lst T.nn.2.1 hc9 ats_nat) (Ats.one (At.lst T.nn.2.2 hb9 ats_nat)))
  have E9 : EnvOk wd0 N H9 (fun _ => 0) 0 σ6 H9 [.dat (tblN o (tabC G) s), .dat (nI r), .dat (nI c), .no, .no, .no, .no, .no] := by
    refine view al9 hlen (fun i d e => ?_) (fun i l e => ?_) (fun i a e => ?_)
    · match i, e with
      | 0, e => cases e; exact ⟨_, hσ0, aN⟩
      | 1, e => cases e; exact ⟨_, hσ1, At.int⟩
      | 2, e => cases e; exact ⟨_, hσ2, At.int⟩
      | 3, e => cases e
      | 4, e => cases e
      | 5, e => cases e
      | 6, e => cases e
      | 7, e => cases e
      | i + 8, e => simp at e
    · have := List.mem_of_getElem? e
      simp at this
    · have := List.mem_of_getElem? e
      simp at this
  refine ws_one (wS_tup 2 (fun X cl => pgs_cons (pg_sub (wE_ok cl) (wE_ok cl) set_list) (pgs_cons (pg_sub (wE_ok cl) (wE_ok cl) set_list) pgs_nil)) ?_ (by kernel_rfl))
  refine EdA.go (ds := [nI x, nI z]) (eda_cons (ed_ix (ed_fldD H.cls (H.noat 93) (ed_nm 0 (by kernel_rfl) rfl) tn_cols) (ed_nm 2 (by kernel_rfl) rfl) (ixl_nat (get_map hx))) (eda_cons (ed_ix (ed_fldD H.cls (H.noat 94) (ed_nm 0 (by kernel_rfl) rfl) tn_bas) (ed_nm 1 (by kernel_rfl) rfl) (ixl_nat (get_map hz))) eda_nil)) E9 fun ws H10 s10 a10 => ?_
  obtain ⟨w1, w2, rfl, d1, d2⟩ := ats2 a10
  have d1' := at_int d1
  have d2' := at_int d2
  subst d1' d2'
  refine ⟨by show 2 ≤ sizeLine; decide, fun T1 hT1 => ⟨T1, [.int (x : Nat), .int (z : Nat)], rfl, SqT.of upd_same, rfl, .int (x : Nat), [.int (z : Nat)], rfl, ?_⟩⟩
  have s11 : Same H9 (upd H10 T1 (.tup [.int (x : Nat), .int (z : Nat)])) := fun a ob e => same_new hT1 _ _ (s10 _ _ e)
  refine wE_fld (i := 0) (by kernel_rfl) hσ0 (s11 _ _ ho9) H.cls (H.noat 94) rfl (wE_nm (i := 1) (by kernel_rfl) hσ1 ⟨bs, natV s.bas, (r : Nat), r, rfl, rfl, s11 _ _ hb9, ixN_nat (by rw [natV, List.length_map, O.bl]; exact hrl), ?_⟩)
  refine ⟨.int (z : Nat), [], rfl, wE_fld (i := 0) (by kernel_rfl) hσ0 (by rw [upd_ne T.ne.2.1]; exact s11 _ _ ho9) H.cls (H.noat 93) rfl (wE_nm (i := 2) (by kernel_rfl) hσ2 ⟨cs, natV s.cols, (c : Nat), c, rfl, rfl, by rw [upd_ne T.ne.2.2]; exact s11 _ _ hc9, ixN_nat (by rw [natV, List.length_map, O.cl]; exact hcl), rfl, ?_⟩)⟩
  obtain ⟨H13, e13⟩ : ∃ H13, H13 = upd (upd (upd H10 T1 (.tup [.int (x : Nat), .int (z : Nat)])) bs (.lst ((natV s.bas).set r (.int (x : Nat))))) cs (.lst ((natV s.cols).set c (.int (z : Nat)))) := ⟨_, rfl⟩
  rw [← e13]
  have k13 : ∀ a ob, a ≠ cs → a ≠ bs → H9 a = some ob → H13 a = some ob := fun a ob h1 h2 e => by
    rw [e13, upd_ne h1, upd_ne h2]
    exact s11 _ _ e
  have kk : ∀ a ob, a ≠ o → a ≠ cs → a ≠ bs → H7 a = some ob → H13 a = some ob := fun a ob h1 h2 h3 e => k13 a ob h2 h3 (k9 a ob h1 e)
  have noL : ∀ us, H7 o ≠ some (.lst us) := fun us e => by rw [k7 _ _ ho] at e; cases e
  have sub : ∀ a, Nt N o cs bs a → (Np N cs bs a ∨ a = o) := fun a h => by
    rcases h with h | h | h | h
    · exact .inl (.inl h)
    · exact .inr h
    · exact .inl (.inr (.inl h))
    · exact .inl (.inr (.inr h))
  have tr : ∀ a ob, ¬ (Np N cs bs a ∨ a = o) → H7 a = some ob → H13 a = some ob := fun a ob h e => kk a ob (fun z => h (.inr z)) (fun z => h (.inl (.inr (.inl z)))) (fun z => h (.inl (.inr (.inr z)))) e
  refine q H13 (fun a ob h1 h2 h3 e => kk a ob h1 h2 h3 (k7 _ _ e)) ⟨T.ne, T.nn, ⟨dx, u1, u2, k13 _ _ T.ne.1 T.ne.2.1 ho9, (at_rows_off noL b1).mono sub tr, (at_lI_off noL b2).mono sub tr⟩, ?_, ?_⟩
  · rw [e13, upd_same, natV_set, swap_eq hx hz]
  · rw [e13, upd_ne (Ne.symm T.ne.2.2), upd_same, natV_set, swap_eq hx hz]
end Kb
namespace Kb
open PySem PySem.Spec PyProof.Rows L2
theorem wS_while {S : Sg} {c : Expr} {body : List Stmt} {pos : Pos} {D' : Ends} {σ : L2.St} {H : Hp} (h : tWhile (wT S c) (wSs S body) D' σ H) : wS S (.While c body [] pos) D' σ H :=
  ⟨tWhile (wT S c) (wSs S body), fun X cl => ps_while (by rw [cl.xe]; exact PassesOwn.never) (wT_ok cl) (wSs_ok cl), h⟩
def IpSp (C : Addr) : Sp := fun vs H Q _ => ∃ (N : Mu) (o cs bs : Addr) (P : Pb) (s e : Ns) (m : Nat), vs = [.ref o] ∧ (∀ a, N a → ∃ ob, H a = some ob) ∧ TabAt N H C o cs bs P s ∧ P.Sm ∧ P.Pth m s e ∧
  ∀ H', (∀ a ob, a ≠ o → a ≠ cs → a ≠ bs → H a = some ob → H' a = some ob) → TabAt N H' C o cs bs P e → Q .non H'
theorem entR_ex (P : Pb) (s : Ns) : ∃ d, EntR P s d := by
  by_cases t : P.Ter s
  · exact ⟨_, .inl ⟨t, rfl⟩⟩
  · obtain ⟨c, x, h⟩ := ent_ex t
    exact ⟨_, .inr ⟨c, x, h, rfl⟩⟩
abbrev N_Table_improve : List Str := ["self", "column"]
theorem sc_Table_improve : FnScope N_Table_improve ["self"] (defScope s_Table_improve) := ⟨rfl, rfl, rfl, by decide +kernel, rfl, by decide +kernel, by decide +kernel⟩
theorem at_frame {N : Mu} {H H' : Hp} {P : Pb} {s : Ns} {d : Dat} {v : V} (h : EntR P s d) (a : At N H d v) : At N H' d v := by
  rcases h with ⟨_, rfl⟩ | ⟨c, x, _, rfl⟩
  · rw [at_non a]; exact At.non
  · rw [at_int a]; exact At.int
theorem ok_improve {G : Gc} (H : Head G) : HasM G "improve" 3 1 (IpSp (tabC G)) := by
  refine H.rmeth (q := "Table.improve") (st := s_Table_improve) (ps := ["self"]) 17 87 (by kernel_rfl) (by kernel_rfl) sc_Table_improve (fun _ _ _ _ _ _ us hl => match us, hl with | [_], _ => rfl) (fun vs Hh Q E ⟨_, _, _, _, _, _, _, _, e, _⟩ => by rw [e]; rfl) fun A hr vs H0 Q E hsp => ?_
  have nd := sc_Table_improve.nd
  obtain ⟨N, o, cs, bs, P, s0, e, m0, rfl, al, T0, Z, p0, q⟩ := hsp
  obtain ⟨d0, hd0⟩ := entR_ex P s0
  have E0 := env_start (g := wd0) (M := N) (H := H0) (N := N_Table_improve) (ds := [tblE o (tabC G) P s0]) (vs := [.ref o]) (k := 0) [] al (Ats.one T0.full) trivial (fun _ z => z.elim) (by simp) (fun _ => 0)
  refine ws_step E0 (xd_set nd 1 (by kernel_rfl) (ed_meth0 (ok_entering H) H.cls (hr.mono (by decide)) (ed_nm 0 (by kernel_rfl) rfl) (by decide) ⟨o, P, s0, rfl, Pth.ok p0, Z, hd0⟩) ⟨rfl, rfl⟩) fun ad1 σ1 H1 E1 => ?_
  have fr1 : Same H0 H1 := Kw.same E1.kp
  have shape : ∀ {ad : Nat → Addr} {M : Mu} {Hb Hx : Hp} {n : Nat} {σ : L2.St} {s : Ns} {d : Dat}, EnvOk wd0 M Hb ad n σ Hx [.dat (tblE o (tabC G) P s), .dat d] → ∃ v, σ = [some (.ref o), some v] ∧ At M Hx d v := fun {ad M Hb Hx n σ s d} E => by
    obtain ⟨v0, h0, a0⟩ := E.dat 0 _ rfl
    obtain ⟨_, _, _, rfl, _⟩ := at_obj a0
    obtain ⟨v1, h1, a1⟩ := E.dat 1 _ rfl
    have hl : σ.length = 2 := E.len
    match σ, hl, h0, h1 with
    | [x, y], _, h0, h1 =>
      cases h0
      cases h1
      exact ⟨v1, rfl, a1.mono (fun a z => .inl z) fun _ _ _ z => z⟩
  obtain ⟨v1, hσ1, a1⟩ := shape E1
  refine ws_one (wS_while ⟨fun m σ H' => ∃ s d v, TabAt N H' (tabC G) o cs bs P s ∧ P.Pth m s e ∧ EntR P s d ∧ σ = [some (.ref o), some v] ∧ At N H' d v ∧ ∀ a ob, a ≠ o → a ≠ cs → a ≠ bs → H0 a = some ob → H' a = some ob, ⟨m0, s0, d0, v1, T0.same fr1, p0, hd0, hσ1, a1, fun a ob _ _ _ h => fr1 _ _ h⟩, ?_⟩)
  rintro m σ H2 ⟨s, d, v, T, p, hd, rfl, av, fr⟩
  have O := Pth.ok p
  have alN : ∀ {Hx : Hp}, (∀ a ob, a ≠ o → a ≠ cs → a ≠ bs → H0 a = some ob → Hx a = some ob) → ∀ a, N a → ∃ ob, Hx a = some ob := fun {Hx} fr a h => by
    obtain ⟨ob, e⟩ := al a h
    exact ⟨ob, fr a ob (fun z => T0.nn.1 (z ▸ h)) (fun z => T0.nn.2.1 (z ▸ h)) (fun z => T0.nn.2.2 (z ▸ h)) e⟩
  have mk : ∀ {Hx : Hp} {s : Ns} {d : Dat} {v : V}, (∀ a ob, a ≠ o → a ≠ cs → a ≠ bs → H0 a = some ob → Hx a = some ob) → TabAt N Hx (tabC G) o cs bs P s → At N Hx d v → EnvOk wd0 N Hx (fun _ => 0) 0 [some (.ref o), some v] Hx [.dat (tblE o (tabC G) P s), .dat d] := fun {Hx s d v} fr T av =>
    view (alN fr) rfl (fun i d e => by
      match i, e with
      | 0, e => cases e; exact ⟨_, rfl, T.full⟩
      | 1, e => cases e; exact ⟨_, rfl, av⟩
      | i + 2, e => simp at e) (fun i l e => by
      have := List.mem_of_getElem? e
      simp at this) fun i a e => by
      have := List.mem_of_getElem? e
      simp at this
  have E2 := mk fr T av
  refine EdT.go (etd_cmp (ed_nm 1 (by kernel_rfl) rfl) ed_non o_notN) E2 fun H3 s3 => ?_
  have fr3 : ∀ a ob, a ≠ o → a ≠ cs → a ≠ bs → H0 a = some ob → H3 a = some ob := fun a ob h1 h2 h3 e => s3 _ _ (fr a ob h1 h2 h3 e)
  have T3 := T.same s3
  rcases hd with ⟨t, rfl⟩ | ⟨c, x, en, rfl⟩
  · -- the end
    refine iteF ?_
    have : s = e := by
      cases p with
      | done => rfl
      | sol => rfl
      | inn _ _ e' _ _ => exact (Ter.no t e').elim
      | out _ _ e' _ _ => exact (Ter.no t e').elim
    subst this
    exact q H3 fr3 T3
  · refine iteT ?_
    -- the row that leaves
    have go : P.First s ∧ ∃ r z, LeaR P s x r ∧ s.bas[r]? = some z ∧ 0 < P.T s r x ∧ ∃ m', m' < m ∧ P.Pth m' (s.swap r c) e := by
      cases p with
      | done _ _ t => exact (Ter.no t en).elim
      | sol _ t _ => exact (Ter.no t en).elim
      | inn _ F e' l h =>
        obtain ⟨rfl, rfl⟩ := Ent.uniq en e'
        exact ⟨F, _, _, .inl ⟨_, l⟩, l.at_, l.pos, _, Nat.lt_succ_self _, h⟩
      | out _ F e' h0 h =>
        obtain ⟨rfl, rfl⟩ := Ent.uniq en e'
        have h1 := T_flat0 O F (Ent.lt O F en)
        have h2 := en.neg
        exact ⟨F, P.m, _, .inr ⟨rfl, h0⟩, F, by omega, _, Nat.lt_succ_self _, h⟩
    obtain ⟨F, r, z, hL, hz, hp, m', hm', p'⟩ := go
    refine ⟨fun σ' H' => ∃ s d v, TabAt N H' (tabC G) o cs bs P s ∧ P.Pth m' s e ∧ EntR P s d ∧ σ' = [some (.ref o), some v] ∧ At N H' d v ∧ ∀ a ob, a ≠ o → a ≠ cs → a ≠ bs → H0 a = some ob → H' a = some ob, fun σ' H' h => ⟨m', hm', h⟩, ?_⟩
    have av3 : At N H3 (nI c) v := av.same s3
    have E3 := mk fr3 T3 av3
    refine ws_cons (wS_expr (wE_meth (ok_exchange H) H.cls (hr.mono (by decide)) (i := 0) (by kernel_rfl) ?_))
    obtain ⟨dx, rv, gv, ho, _, _⟩ := T3.ob
    refine ⟨.ref o, rfl, o, dx, _, rfl, ho, look_none (show ("exchange" : Str) ∉ tabKeys by decide), ?_⟩
    refine EdA.go (S := G.sg A N_Table_improve (defScope s_Table_improve)) (ds := [nI r, nI c]) (eda_cons (ed_meth (S := G.sg A N_Table_improve (defScope s_Table_improve)) (ok_leaving H) H.cls (hr.mono (by decide)) (ed_nm 0 (by kernel_rfl) rfl) (by decide) (eda_cons (ed_nm 1 (by kernel_rfl) rfl) eda_nil) ⟨o, P, s, c, x, r, rfl, O, F, Z, en, hL, rfl⟩) (eda_cons (ed_nm 1 (by kernel_rfl) rfl) eda_nil)) E3 fun ws H4 s4 a4 => ?_
    obtain ⟨w1, w2, rfl, b1, b2⟩ := ats2 a4
    have b1' := at_int b1
    have b2' := at_int b2
    subst b1' b2'
    have fr4 : ∀ a ob, a ≠ o → a ≠ cs → a ≠ bs → H0 a = some ob → H4 a = some ob := fun a ob h1 h2 h3 e => s4 _ _ (fr3 a ob h1 h2 h3 e)
    refine ⟨N, o, cs, bs, P, s, c, r, x, z, rfl, alN fr4, T3.same s4, O, Z, en.at_, hz, hp, fun H5 k5 T5 => ?_⟩
    have fr5 : ∀ a ob, a ≠ o → a ≠ cs → a ≠ bs → H0 a = some ob → H5 a = some ob := fun a ob h1 h2 h3 e => k5 a ob h1 h2 h3 (fr4 a ob h1 h2 h3 e)
    have av5 : At N H5 (nI c) v := by rw [at_int av]; exact At.int
    obtain ⟨d', hd'⟩ := entR_ex P (s.swap r c)
    refine ws_last (mk fr5 T5 av5) (xd_set nd 1 (by kernel_rfl) (ed_meth0 (ok_entering H) H.cls (hr.mono (by decide)) (ed_nm 0 (by kernel_rfl) rfl) (by decide) ⟨o, P, s.swap r c, rfl, Pth.ok p', Z, hd'⟩) ⟨rfl, rfl⟩) fun ad6 σ6 H6 E6 => ?_
    have s6 : Same H5 H6 := Kw.same E6.kp
    obtain ⟨v6, hσ6, a6⟩ := shape E6
    exact ⟨_, d', v6, T5.same s6, p', hd', hσ6, a6, fun a ob h1 h2 h3 e => s6 _ _ (fr5 a ob h1 h2 h3 e)⟩
end Kb
namespace Kb
open PySem PySem.Spec PyProof.Rows L2
def InSp (C : Addr) : Sp := fun vs H Q _ => ∃ (N : Mu) (o dx : Addr) (P : Pb) (rs : List (List Int)) (bd gl : List Int) (v1 v2 v3 : V), vs = [.ref o, v1, v2, v3] ∧ (∀ a, N a → ∃ ob, H a = some ob) ∧ ¬ N o ∧ H o = some (.ins C dx []) ∧ Ats (fun a => N a ∨ a = o) H [.lst (rs.map lI), lI bd, lI gl] [v1, v2, v3] ∧ P.Sm ∧
  rs.length = P.m + 1 ∧ bd.length = P.m + 1 ∧ gl.length = P.nu ∧ (∀ r ∈ rs, r.length ≤ 100) ∧ (rs.zip bd).map (fun p => p.1 ++ [p.2]) = P.rowsOf P.s0 ∧ gl.map (fun x => 0 - x) ++ [0] = P.rowOf P.s0 (P.m + 1) ∧
  ∀ H' cs bs, (∀ a ob, a ≠ o → H a = some ob → H' a = some ob) → H cs = none → H bs = none → TabAt N H' C o cs bs P P.s0 → Q .non H'
def HasI (G : Gc) (k np : Nat) (sp : Sp) : Prop := ∃ fd ps, Mk G.K (tabC G) (He.ma G.K (tabC G) "__init__") ∧ Binds G.K fd ps [] ∧ ps.length = np ∧ FnOk G.P G.w G.K G.mg G.base CX0 k (He.ma G.K (tabC G) "__init__") fd ps sp
abbrev N_Table___init__ : List Str := ["self", "rows", "bounds", "goal", "row", "bound", "factor", "index"]
theorem sc_Table___init__ : FnScope N_Table___init__ ["self", "rows", "bounds", "goal"] (defScope s_Table___init__) := ⟨rfl, rfl, rfl, by decide +kernel, rfl, by decide +kernel, by decide +kernel⟩
theorem zp2_rows (rs : List (List Int)) (bd : List Int) : zp2 (rs.map lI) (bd.map .int) = (rs.zip bd).map fun p => .tup [lI p.1, .int p.2] := by
  unfold zp2
  rw [List.zip_map, List.map_map]
  rfl
theorem ok___init__ {G : Gc} (H : Head G) : HasI G 1 4 (InSp (tabC G)) := by
  obtain ⟨fd, F⟩ := H.says.def_ 11 (by kernel_rfl : fn[11]? = some ⟨("Table", some "__init__"), "__init__", "Table.__init__", defArgs s_Table___init__, defBody s_Table___init__, defScope s_Table___init__, [], []⟩)
  refine ⟨fd, ["self", "rows", "bounds", "goal"], H.mkr, F.bindsN (fun _ _ _ _ _ _ us hl => match us, hl with | [_, _, _, _], _ => rfl), rfl, F.ok sc_Table___init__ (fun vs Hh Q E ⟨_, _, _, _, _, _, _, _, _, _, e, _⟩ => by rw [e]; rfl) fun cdv A0 outer sh H0 vs Q E hr0 hsp => ?_⟩
  refine ⟨wSs (G.sg (A0.deeper (envOfC "Table.__init__" (defScope s_Table___init__) sh.heap.objs.size _ cdv)) N_Table___init__ (defScope s_Table___init__)) (defBody s_Table___init__), (wSs_ok cl_def).nox, ?_⟩
  generalize A0.deeper (envOfC "Table.__init__" (defScope s_Table___init__) sh.heap.objs.size _ cdv) = A at hr0 ⊢
  have hr : Room 0 A := hr0
  have nd := sc_Table___init__.nd
  obtain ⟨N, o, dx, P, rs, bd, gl, v1, v2, v3, rfl, al, nN, ho0, av, Z, hrs, hbd, hgl, hrl, eR, eG, q⟩ := hsp
  have hm := Z.m
  have hnu := Z.nu
  obtain ⟨M', eM⟩ : ∃ M' : Mu, M' = fun a => N a ∨ a = o := ⟨_, rfl⟩
  rw [← eM] at av
  have mo : M' o := by rw [eM]; exact .inr rfl
  have mN : ∀ a, N a → M' a := fun a h => by rw [eM]; exact .inl h
  have alM : ∀ {Hx : Hp}, (∀ a ob, a ≠ o → H0 a = some ob → Hx a = some ob) → (∃ ob, Hx o = some ob) → ∀ a, M' a → ∃ ob, Hx a = some ob := fun {Hx} fr h0 a h => by
    rw [eM] at h
    by_cases e : a = o
    · rw [e]; exact h0
    · rcases h with h | h
      · obtain ⟨ob, e2⟩ := al a h
        exact ⟨ob, fr a ob e e2⟩
      · exact absurd h e
  obtain ⟨σ, eσ⟩ : ∃ σ : L2.St, σ = [some (.ref o), some v1, some v2, some v3, none, none, none, none] := ⟨_, rfl⟩
  have eσ0 : L2.start N_Table___init__ [.ref o, v1, v2, v3] = σ := by rw [eσ]; rfl
  rw [eσ0]
  have hσ0 : σ[0]? = some (some (.ref o)) := by rw [eσ]; rfl
  -- the states looked at
  have mk : ∀ {Hx : Hp}, (∀ a ob, a ≠ o → H0 a = some ob → Hx a = some ob) → (∃ ob, Hx o = some ob) → EnvOk wd0 M' Hx (fun _ => 0) 0 σ Hx [.raw o, .dat (.lst (rs.map lI)), .dat (lI bd), .dat (lI gl), .no, .no, .no, .no] := fun {Hx} fr h0 => by
    have av' : Ats M' Hx _ _ := av.mono (fun _ z => z) fun a ob na e => fr a ob (fun z => na (by rw [z]; exact mo)) e
    obtain ⟨u1, u2, u3, eu, b1, b2, b3⟩ := ats3 av'
    cases eu
    rw [eσ]
    refine view (alM fr h0) rfl (fun i d e => ?_) (fun i l e => ?_) (fun i a e => ?_)
    · match i, e with
      | 0, e => cases e
      | 1, e => cases e; exact ⟨_, rfl, b1⟩
      | 2, e => cases e; exact ⟨_, rfl, b2⟩
      | 3, e => cases e; exact ⟨_, rfl, b3⟩
      | 4, e => cases e
      | 5, e => cases e
      | 6, e => cases e
      | 7, e => cases e
      | i + 8, e => simp at e
    · have := List.mem_of_getElem? e
      simp at this
    · match i, e with
      | 0, e => cases e; rfl
      | 1, e => cases e
      | 2, e => cases e
      | 3, e => cases e
      | 4, e => cases e
      | 5, e => cases e
      | 6, e => cases e
      | 7, e => cases e
      | i + 8, e => simp at e
  have mkS : ∀ {Hx : Hp} {fs : List (Str × V)}, (∀ a ob, a ≠ o → H0 a = some ob → Hx a = some ob) → Hx o = some (.ins (tabC G) dx fs) → (∀ f ∈ fs.map (·.1), f ∈ tabKeys) → fs.lookup ("size" : Str) = some (V.int (P.nu : Nat)) → EnvOk wd0 N Hx (fun _ => 0) 0 σ Hx [.dat (.obj o (tabC G) ["size"] [nI P.nu]), .dat (.lst (rs.map lI)), .dat (lI bd), .dat (lI gl), .no, .no, .no, .no] := fun {Hx fs} fr h0 hk hs => by
    have av' : Ats N Hx _ _ := av.mono mN fun a ob na e => fr a ob (fun z => na (by rw [z]; exact mo)) e
    obtain ⟨u1, u2, u3, eu, b1, b2, b3⟩ := ats3 av'
    cases eu
    rw [eσ]
    refine view (fun a h => alM fr ⟨_, h0⟩ a (mN a h)) rfl (fun i d e => ?_) (fun i l e => ?_) (fun i a e => ?_)
    · match i, e with
      | 0, e => cases e; exact ⟨_, rfl, At.obj nN h0 hk (vs := [.int (P.nu : Nat)]) (by rw [List.map_singleton, hs]; rfl) (Ats.one At.int)⟩
      | 1, e => cases e; exact ⟨_, rfl, b1⟩
      | 2, e => cases e; exact ⟨_, rfl, b2⟩
      | 3, e => cases e; exact ⟨_, rfl, b3⟩
      | 4, e => cases e
      | 5, e => cases e
      | 6, e => cases e
      | 7, e => cases e
      | i + 8, e => simp at e
    · have := List.mem_of_getElem? e
      simp at this
    · have := List.mem_of_getElem? e
      simp at this
  have fst : FldD (.obj o (tabC G) ["size"] [nI P.nu]) (tabC G) "size" (nI P.nu) := ⟨_, _, _, 0, rfl, rfl, rfl⟩
  -- size
  refine ws_cons (wS_fld (i := 0) (by kernel_rfl) (Ed.go (S := G.sg A N_Table___init__ (defScope s_Table___init__)) (ed_len (by kernel_rfl) (H.free 69) (ed_nm 3 (by kernel_rfl) rfl) (by exact rfl)) (mk (fun a ob _ e => e) ⟨_, ho0⟩) fun y1 H1 s1 a1 => ⟨.ref o, hσ0, o, tabC G, dx, [], rfl, s1 _ _ ho0, H.cls, H.noat 90, by show 0 < 1000; decide, ?_⟩))
  have ey1 : y1 = .int (P.nu : Nat) := by rw [at_int a1, List.length_map, hgl]
  subst ey1
  obtain ⟨K1, eK1⟩ : ∃ K1, K1 = upd H1 o (.ins (tabC G) dx (putF "size" (.int (P.nu : Nat)) [])) := ⟨_, rfl⟩
  rw [← eK1]
  have ho1 : K1 o = some (.ins (tabC G) dx [("size", .int (P.nu : Nat))]) := by rw [eK1, upd_same]; rfl
  have f1 : ∀ a ob, a ≠ o → H0 a = some ob → K1 a = some ob := fun a ob h e => by rw [eK1, upd_ne h]; exact s1 _ _ e
  -- rows
  refine ws_cons (wS_fld (i := 0) (by kernel_rfl) (Ed.go (S := G.sg A N_Table___init__ (defScope s_Table___init__)) (d := .lst ((P.rowsOf P.s0).map lI)) (EdN.ed (EdN.is (edn_lcm nd [("row", 4), ("bound", 5)] (by kernel_rfl) (ys := rs.zip bd) (enc := fun p => .tup [lI p.1, .int p.2]) (f := fun p => lI (p.1 ++ [p.2])) (EdI.is (edi_zips2 (xs := rs.map lI) (ys := bd.map .int) (by kernel_rfl) (H.free 79) (ed_nm 1 (by kernel_rfl) rfl) (ed_nm 2 (by kernel_rfl) rfl) (by exact rfl) (by exact rfl) (by rw [List.length_map, List.length_map, hrs, hbd])) (zp2_rows rs bd)) (by rw [List.length_zip]; omega) (fun y hy => ⟨_, _, (by simp), (gd_tup (gds_cons (gd_nm nd 4 (by kernel_rfl)) (gds_cons (gd_nm nd 5 (by kernel_rfl)) gds_nil))), (EdN.ed (EdN.is (edn_op (EdN.ed (edn_listL (by kernel_rfl) (H.free 70) (ed_nm 4 (by kernel_rfl) rfl))) (EdN.ed (edn_lst (eda_cons (ed_nm 5 (by kernel_rfl) rfl) eda_nil) (by simp))) (on_cat (by
    have := hrl _ (List.of_mem_zip (a := y.1) (b := y.2) hy).1
    simp; omega))) (by simp)))⟩)) (by rw [← eR, List.map_map]; rfl))) (mk f1 ⟨_, ho1⟩) fun rv H2 s2 a2 => ⟨.ref o, hσ0, o, tabC G, dx, _, rfl, s2 _ _ ho1, H.cls, H.noat 91, by show 1 < 1000; decide, ?_⟩))
  obtain ⟨K2, eK2⟩ : ∃ K2, K2 = upd H2 o (.ins (tabC G) dx (putF "rows" rv [("size", .int (P.nu : Nat))])) := ⟨_, rfl⟩
  rw [← eK2]
  have ho2 : K2 o = some (.ins (tabC G) dx [("size", .int (P.nu : Nat)), ("rows", rv)]) := by rw [eK2, upd_same]; rfl
  have f2 : ∀ a ob, a ≠ o → H0 a = some ob → K2 a = some ob := fun a ob h e => by rw [eK2, upd_ne h]; exact s2 _ _ (f1 a ob h e)
  have no : ∀ {a : Addr}, ¬ M' a → a ≠ o := fun {a} na z => na (by rw [z]; exact mo)
  have ar2 : At M' K2 (.lst ((P.rowsOf P.s0).map lI)) rv := a2.mono (fun a z => .inl z) fun a ob na e => by rw [eK2, upd_ne (no fun z => na (.inl z))]; exact e
  -- goal
  refine ws_cons (wS_fld (i := 0) (by kernel_rfl) (Ed.go (S := G.sg A N_Table___init__ (defScope s_Table___init__)) (d := lI (P.rowOf P.s0 (P.m + 1))) (EdN.ed (EdN.is (edn_op (EdN.ed (edn_lcm nd [("factor", 6)] (by kernel_rfl) (ys := gl) (enc := .int) (f := fun x => .int (0 - x)) (edi_lst (ed_nm 3 (by kernel_rfl) rfl)) (by omega) (fun y hy => ⟨_, _, (by simp), (gd_nm nd 6 (by kernel_rfl)), (ed_op ed_int (ed_nm 6 (by kernel_rfl) rfl) o_sub)⟩))) (EdN.ed (edn_lst (eda_cons ed_int eda_nil))) (on_cat (by simp; omega))) (by rw [← eG]; simp))) (mk f2 ⟨_, ho2⟩) fun gv H3 s3 a3 => ⟨.ref o, hσ0, o, tabC G, dx, _, rfl, s3 _ _ ho2, H.cls, H.noat 92, by show 2 < 1000; decide, ?_⟩))
  obtain ⟨K3, eK3⟩ : ∃ K3, K3 = upd H3 o (.ins (tabC G) dx (putF "goal" gv [("size", .int (P.nu : Nat)), ("rows", rv)])) := ⟨_, rfl⟩
  rw [← eK3]
  have ho3 : K3 o = some (.ins (tabC G) dx [("size", .int (P.nu : Nat)), ("rows", rv), ("goal", gv)]) := by rw [eK3, upd_same]; rfl
  have g3 : ∀ a ob, a ≠ o → K2 a = some ob → K3 a = some ob := fun a ob h e => by rw [eK3, upd_ne h]; exact s3 _ _ e
  have f3 : ∀ a ob, a ≠ o → H0 a = some ob → K3 a = some ob := fun a ob h e => g3 a ob h (f2 a ob h e)
  have ar3 : At M' K3 (.lst ((P.rowsOf P.s0).map lI)) rv := ar2.mono (fun _ z => z) fun a ob na e => g3 a ob (no na) e
  have ag3 : At M' K3 (lI (P.rowOf P.s0 (P.m + 1))) gv := a3.mono (fun a z => .inl z) fun a ob na e => by rw [eK3, upd_ne (no fun z => na (.inl z))]; exact e
  -- columns
  refine ws_cons (wS_fld (i := 0) (by kernel_rfl) (EdN.go (S := G.sg A N_Table___init__ (defScope s_Table___init__)) (ds := (List.range P.nu).map nI) (EdN.is (edn_listRg (by kernel_rfl) (H.free 70) (by kernel_rfl) (H.free 73) (ed_fldD H.cls (H.noat 90) (ed_nm 0 (by kernel_rfl) rfl) fst) (by omega) (by omega)) (by rw [Int.toNat_natCast, rgD_range]; rfl)) (mkS f3 ho3 (by intro f hf; simp at hf; rcases hf with rfl | rfl | rfl <;> decide) rfl) fun cs us H4 n4 s4 h4 a4 => ⟨.ref o, hσ0, o, tabC G, dx, _, rfl, s4 _ _ ho3, H.cls, H.noat 93, by show 3 < 1000; decide, ?_⟩))
  have eus : us = natV P.s0.cols := by
    have : Ats (fun _ => False) H4 ((P.s0.cols.map fun i => ((i : Nat) : Int)).map Dat.int) us := by
      rw [← nI_map]
      exact a4.mono (fun _ z => z.elim) fun _ _ _ z => z
    rw [this.ints, List.map_map]
    rfl
  subst eus
  have oc : o ≠ cs := fun e => by rw [← e, ho3] at n4; cases n4
  obtain ⟨K4, eK4⟩ : ∃ K4, K4 = upd H4 o (.ins (tabC G) dx (putF "columns" (.ref cs) [("size", .int (P.nu : Nat)), ("rows", rv), ("goal", gv)])) := ⟨_, rfl⟩
  rw [← eK4]
  have ho4 : K4 o = some (.ins (tabC G) dx [("size", .int (P.nu : Nat)), ("rows", rv), ("goal", gv), ("columns", .ref cs)]) := by rw [eK4, upd_same]; rfl
  have g4 : ∀ a ob, a ≠ o → K3 a = some ob → K4 a = some ob := fun a ob h e => by rw [eK4, upd_ne h]; exact s4 _ _ e
  have f4 : ∀ a ob, a ≠ o → H0 a = some ob → K4 a = some ob := fun a ob h e => g4 a ob h (f3 a ob h e)
  have hc4 : K4 cs = some (.lst (natV P.s0.cols)) := by rw [eK4, upd_ne (Ne.symm oc)]; exact h4
  -- basis
  refine ws_cons (wS_fld (i := 0) (by kernel_rfl) (EdN.go (S := G.sg A N_Table___init__ (defScope s_Table___init__)) (ds := P.s0.bas.map nI) (EdN.is (edn_lcm nd [("index", 7)] (by kernel_rfl) (ys := List.range (P.m + 1)) (enc := fun i => Dat.int (i : Nat)) (f := fun i => nI (P.nu + i)) (EdI.is (edi_rng1 (by kernel_rfl) (H.free 73) (ed_len (xs := rs.map lI) (by kernel_rfl) (H.free 69) (ed_nm 1 (by kernel_rfl) rfl) (by exact rfl)) (by rw [List.length_map]; omega) (by rw [List.length_map]; omega)) (by rw [Int.toNat_natCast, rgD_range, List.length_map, hrs])) (by rw [List.length_range]; omega) (fun y hy => ⟨_, _, (by simp), (gd_nm nd 7 (by kernel_rfl)), (Ed.is (ed_op (ed_fldD H.cls (H.noat 90) (ed_nm 0 (by kernel_rfl) rfl) fst) (ed_nm 7 (by kernel_rfl) rfl) o_add) (by show Dat.int _ = Dat.int _; congr 1))⟩)) (by unfold Pb.s0; rw [List.map_map]; rfl)) (mkS f4 ho4 (by intro f hf; simp at hf; rcases hf with rfl | rfl | rfl | rfl <;> decide) rfl) fun bs us H5 n5 s5 h5 a5 => ⟨.ref o, hσ0, o, tabC G, dx, _, rfl, s5 _ _ ho4, H.cls, H.noat 94, by show 4 < 1000; decide, ?_⟩))
  have eus : us = natV P.s0.bas := by
    have : Ats (fun _ => False) H5 ((P.s0.bas.map fun i => ((i : Nat) : Int)).map Dat.int) us := by
      rw [← nI_map]
      exact a5.mono (fun _ z => z.elim) fun _ _ _ z => z
    rw [this.ints, List.map_map]
    rfl
  subst eus
  have ob : o ≠ bs := fun e => by rw [← e, ho4] at n5; cases n5
  have cb : cs ≠ bs := fun e => by rw [← e, hc4] at n5; cases n5
  obtain ⟨K5, eK5⟩ : ∃ K5, K5 = upd H5 o (.ins (tabC G) dx (putF "basis" (.ref bs) [("size", .int (P.nu : Nat)), ("rows", rv), ("goal", gv), ("columns", .ref cs)])) := ⟨_, rfl⟩
  rw [← eK5]
  have ho5 : K5 o = some (.ins (tabC G) dx [("size", .int (P.nu : Nat)), ("rows", rv), ("goal", gv), ("columns", .ref cs), ("basis", .ref bs)]) := by rw [eK5, upd_same]; rfl
  have g5 : ∀ a ob, a ≠ o → K4 a = some ob → K5 a = some ob := fun a ob h e => by rw [eK5, upd_ne h]; exact s5 _ _ e
  have hc5 := g5 _ _ (Ne.symm oc) hc4
  have hb5 : K5 bs = some (.lst (natV P.s0.bas)) := by rw [eK5, upd_ne (Ne.symm ob)]; exact h5
  -- denominator
  refine ws_one (wS_fld (i := 0) (by kernel_rfl) (Ed.go (S := G.sg A N_Table___init__ (defScope s_Table___init__)) (d := .int 1) ed_int (mk (fun a ob h e => g5 a ob h (f4 a ob h e)) ⟨_, ho5⟩) fun y6 H6 s6 a6 => ⟨.ref o, hσ0, o, tabC G, dx, _, rfl, s6 _ _ ho5, H.cls, H.noat 95, by show 5 < 1000; decide, ?_⟩))
  have ey6 := at_int a6
  subst ey6
  have k6 : ∀ a ob, a ≠ o → K3 a = some ob → upd H6 o (.ins (tabC G) dx (putF "denominator" (.int 1) [("size", .int (P.nu : Nat)), ("rows", rv), ("goal", gv), ("columns", .ref cs), ("basis", .ref bs)])) a = some ob := fun a ob h e => by
    rw [upd_ne h]
    exact s6 _ _ (g5 a ob h (g4 a ob h e))
  have nNc : ¬ N cs := fun z => by
    obtain ⟨ob, e⟩ := al cs z
    rw [f3 _ _ (Ne.symm oc) e] at n4
    cases n4
  have nNb : ¬ N bs := fun z => by
    obtain ⟨ob', e⟩ := al bs z
    rw [f4 _ _ (Ne.symm ob) e] at n5
    cases n5
  have tr : ∀ {d : Dat} {v : V}, At M' K3 d v → At (Nt N o cs bs) (upd H6 o (.ins (tabC G) dx (putF "denominator" (.int 1) [("size", .int (P.nu : Nat)), ("rows", rv), ("goal", gv), ("columns", .ref cs), ("basis", .ref bs)]))) d v := fun {d v} h => h.gen fun a ob' na e => by
    have ao := no na
    refine ⟨fun z => ?_, k6 a ob' ao e⟩
    rcases z with z | z | z | z
    · exact na (mN a z)
    · exact ao z
    · rw [z, n4] at e; cases e
    · rw [z] at e
      rw [g4 _ _ (Ne.symm ob) e] at n5
      cases n5
  have fc : H0 cs = none := by
    cases e : H0 cs with
    | none => rfl
    | some ob' => rw [f3 _ _ (Ne.symm oc) e] at n4; cases n4
  have fb : H0 bs = none := by
    cases e : H0 bs with
    | none => rfl
    | some ob' => rw [f4 _ _ (Ne.symm ob) e] at n5; cases n5
  refine q _ cs bs (fun a ob' h e => k6 a ob' h (f3 a ob' h e)) fc fb ⟨⟨oc, ob, cb⟩, ⟨nN, nNc, nNb⟩, ⟨dx, rv, gv, ?_, tr ar3, tr ag3⟩, ?_, ?_⟩
  · rw [upd_same]
    unfold tabFs
    rw [D_s0]
    rfl
  · rw [upd_ne (Ne.symm oc)]
    exact s6 _ _ hc5
  · rw [upd_ne (Ne.symm ob)]
    exact s6 _ _ hb5
end Kb
namespace Kb
/-! the problem of rows that shall all be more than 0 -/
def trw (r : List Int) : List Int := r.map (fun x => 0 - x) ++ r ++ [1]
def lastRw (n : Nat) : List Int := List.replicate (2 * n) 0 ++ [1]
def amat (n : Nat) (rs : List (List Int)) : List (List Int) := rs.map trw ++ [lastRw n]
def cell (n : Nat) (rs : List (List Int)) (i j : Nat) : Int := ((amat n rs).getD i []).getD j 0
def sysA (n : Nat) (rs : List (List Int)) (j i : Nat) : Int := if j < 2 * n + 1 then (if i = rs.length + 1 then -cell n rs rs.length j else cell n rs i j) else ev1 (j - (2 * n + 1)) i
def sysP (n : Nat) (rs : List (List Int)) : Pb where
  m := rs.length
  nu := 2 * n + 1
  a := sysA n rs
  unit := fun i hi j hj => by
    unfold sysA
    rw [if_neg (by omega), Nat.add_sub_cancel_left]
  flat := fun j hj => by
    unfold sysA
    by_cases h : j < 2 * n + 1
    · rw [if_pos h, if_pos h, if_pos rfl, if_neg (by omega)]
    · rw [if_neg h, if_neg h]
      unfold ev1
      rw [if_neg (by omega), if_neg (by omega)]
      rfl
section
variable {n : Nat} {rs : List (List Int)}
theorem amat_last : (amat n rs).getD rs.length [] = lastRw n := by
  unfold amat
  rw [List.getD_eq_getElem?_getD, List.getElem?_append_right (by simp), List.length_map, Nat.sub_self]
  rfl
theorem amat_row {i : Nat} (hi : i < rs.length) : (amat n rs).getD i [] = trw (rs.getD i []) := by
  unfold amat
  rw [List.getD_eq_getElem?_getD, List.getElem?_append_left (by simpa using hi), List.getElem?_map, List.getD_eq_getElem?_getD, List.getElem?_eq_getElem hi]
  rfl
theorem trw_lo {r : List Int} (h : r.length = n) {k : Nat} (hk : k < n) : (trw r).getD k 0 = -r.getD k 0 := by
  unfold trw
  rw [List.getD_eq_getElem?_getD, List.getElem?_append_left (by simp; omega), List.getElem?_append_left (by simp; omega), List.getElem?_map, List.getD_eq_getElem?_getD, List.getElem?_eq_getElem (by omega)]
  show 0 - r[k] = -r[k]
  omega
theorem trw_hi {r : List Int} (h : r.length = n) {k : Nat} (hk : k < n) : (trw r).getD (n + k) 0 = r.getD k 0 := by
  unfold trw
  rw [List.getD_eq_getElem?_getD, List.getElem?_append_left (by simp; omega), List.getElem?_append_right (by simp; omega), List.length_map, h, Nat.add_sub_cancel_left, List.getD_eq_getElem?_getD]
theorem trw_top {r : List Int} (h : r.length = n) : (trw r).getD (2 * n) 0 = 1 := by
  unfold trw
  rw [List.getD_eq_getElem?_getD, List.getElem?_append_right (by simp; omega), List.length_append, List.length_map, h, show 2 * n - (n + n) = 0 by omega]
  rfl
theorem lastRw_lo {k : Nat} (hk : k < 2 * n) : (lastRw n).getD k 0 = 0 := by
  unfold lastRw
  rw [List.getD_eq_getElem?_getD, List.getElem?_append_left (by simpa using hk), List.getElem?_replicate, if_pos hk]
  rfl
theorem lastRw_top : (lastRw n).getD (2 * n) 0 = 1 := by
  unfold lastRw
  rw [List.getD_eq_getElem?_getD, List.getElem?_append_right (by simp), List.length_replicate, Nat.sub_self]
  rfl
theorem sysA_row {i j : Nat} (hi : i < rs.length) (hj : j < 2 * n + 1) : (sysP n rs).a j i = (trw (rs.getD i [])).getD j 0 := by
  show sysA n rs j i = _
  unfold sysA cell
  rw [if_pos hj, if_neg (by omega), amat_row hi]
theorem sysA_last {j : Nat} (hj : j < 2 * n + 1) : (sysP n rs).a j rs.length = (lastRw n).getD j 0 := by
  show sysA n rs j rs.length = _
  unfold sysA cell
  rw [if_pos hj, if_neg (by omega), amat_last]
theorem sm_nu (f : Nat → Int) : sm (2 * n + 1) f = sm n f + sm n (fun k => f (n + k)) + f (2 * n) := by
  rw [sm_succ, show 2 * n = n + n by omega, sm_split]
/-- the end with a point -/
theorem sysB (hl : ∀ r ∈ rs, r.length = n) {s : Ns} (O : (sysP n rs).Ok s) (S : (sysP n rs).Sol s) {i : Nat} (hi : i < rs.length) : 1 ≤ sm n fun k => (rs.getD i []).getD k 0 * ((sysP n rs).pt s k - (sysP n rs).pt s (n + k)) := by
  obtain ⟨h1, h2⟩ := endB O S
  have h1 : sm (2 * n + 1) (fun j => (sysP n rs).pt s j * (sysP n rs).a j i) ≤ 0 := h1 i hi
  have h2 : sm (2 * n + 1) (fun j => (sysP n rs).pt s j * (sysP n rs).a j rs.length) = (sysP n rs).D s := h2
  have hr : (rs.getD i []).length = n := hl _ (by rw [List.getD_eq_getElem?_getD, List.getElem?_eq_getElem hi]; exact List.getElem_mem hi)
  rw [sm_nu] at h1 h2
  have e1 : sm n (fun k => (sysP n rs).pt s k * (sysP n rs).a k i) = sm n fun k => (sysP n rs).pt s k * -((rs.getD i []).getD k 0) := sm_congr fun k hk => by rw [sysA_row hi (by omega), trw_lo hr hk]
  have e2 : sm n (fun k => (sysP n rs).pt s (n + k) * (sysP n rs).a (n + k) i) = sm n fun k => (sysP n rs).pt s (n + k) * (rs.getD i []).getD k 0 := sm_congr fun k hk => by rw [sysA_row hi (by omega), trw_hi hr hk]
  have e3 : (sysP n rs).a (2 * n) i = 1 := by rw [sysA_row hi (by omega), trw_top hr]
  have e4 : sm n (fun k => (sysP n rs).pt s k * (sysP n rs).a k rs.length) = 0 := sm_none fun k hk => by rw [sysA_last (by omega), lastRw_lo (by omega), Int.mul_zero]
  have e5 : sm n (fun k => (sysP n rs).pt s (n + k) * (sysP n rs).a (n + k) rs.length) = 0 := sm_none fun k hk => by rw [sysA_last (by omega), lastRw_lo (by omega), Int.mul_zero]
  have e6 : (sysP n rs).a (2 * n) rs.length = 1 := by rw [sysA_last (by omega), lastRw_top]
  rw [e1, e2, e3] at h1
  rw [e4, e5, e6] at h2
  have e7 : sm n (fun k => (rs.getD i []).getD k 0 * ((sysP n rs).pt s k - (sysP n rs).pt s (n + k))) = -(sm n fun k => (sysP n rs).pt s k * -((rs.getD i []).getD k 0)) - sm n fun k => (sysP n rs).pt s (n + k) * (rs.getD i []).getD k 0 := by
    have : -(sm n fun k => (sysP n rs).pt s k * -((rs.getD i []).getD k 0)) = sm n fun k => -1 * ((sysP n rs).pt s k * -((rs.getD i []).getD k 0)) := by rw [sm_mul]; omega
    rw [this, ← sm_sub]
    exact sm_congr fun k _ => by grind
  have := O.pos
  rw [e7]
  omega
/-- the end without: weights -/
theorem sysW (hl : ∀ r ∈ rs, r.length = n) {s : Ns} (O : (sysP n rs).Ok s) (F : (sysP n rs).First s) (t : (sysP n rs).Ter s) :
    (∀ i, i < rs.length → 0 ≤ (sysP n rs).T s (rs.length + 1) (2 * n + 1 + i)) ∧ (∀ k, k < n → sm rs.length (fun i => (rs.getD i []).getD k 0 * (sysP n rs).T s (rs.length + 1) (2 * n + 1 + i)) = 0) ∧ 1 ≤ sm rs.length fun i => (sysP n rs).T s (rs.length + 1) (2 * n + 1 + i) := by
  obtain ⟨h1, h2⟩ := endA O F t
  have h2 : ∀ j, j < 2 * n + 1 → (sysP n rs).a j rs.length * (sysP n rs).D s ≤ sm rs.length fun i => (sysP n rs).a j i * (sysP n rs).T s (rs.length + 1) (2 * n + 1 + i) := h2
  have hr : ∀ i, i < rs.length → (rs.getD i []).length = n := fun i hi => hl _ (by rw [List.getD_eq_getElem?_getD, List.getElem?_eq_getElem hi]; exact List.getElem_mem hi)
  refine ⟨fun i hi => h1 i (by show i < rs.length + 1; omega), fun k hk => ?_, ?_⟩
  · have a1 := h2 k (by omega)
    have a2 := h2 (n + k) (by omega)
    rw [sysA_last (by omega), lastRw_lo (by omega), Int.zero_mul] at a1 a2
    have e1 : sm rs.length (fun i => (sysP n rs).a k i * (sysP n rs).T s (rs.length + 1) (2 * n + 1 + i)) = -1 * sm rs.length fun i => (rs.getD i []).getD k 0 * (sysP n rs).T s (rs.length + 1) (2 * n + 1 + i) := by
      rw [← sm_mul]
      exact sm_congr fun i hi => by rw [sysA_row hi (by omega), trw_lo (hr i hi) hk, Int.neg_mul]; omega
    have e2 : sm rs.length (fun i => (sysP n rs).a (n + k) i * (sysP n rs).T s (rs.length + 1) (2 * n + 1 + i)) = sm rs.length fun i => (rs.getD i []).getD k 0 * (sysP n rs).T s (rs.length + 1) (2 * n + 1 + i) := sm_congr fun i hi => by rw [sysA_row hi (by omega), trw_hi (hr i hi) hk]
    rw [e1] at a1
    rw [e2] at a2
    omega
  · have a1 := h2 (2 * n) (by omega)
    rw [sysA_last (by omega), lastRw_top, Int.one_mul] at a1
    have e1 : sm rs.length (fun i => (sysP n rs).a (2 * n) i * (sysP n rs).T s (rs.length + 1) (2 * n + 1 + i)) = sm rs.length fun i => (sysP n rs).T s (rs.length + 1) (2 * n + 1 + i) := sm_congr fun i hi => by rw [sysA_row hi (by omega), trw_top (hr i hi), Int.one_mul]
    rw [e1] at a1
    have := O.pos
    omega
end
end Kb
namespace Kb
theorem rowOf_s0 (P : Pb) {k : Nat} (hk : k < P.m + 2) : P.rowOf P.s0 k = (List.range P.nu).map (fun j => P.a j k) ++ [ev1 P.m k] := by
  unfold Pb.rowOf
  rw [List.map_append, List.map_singleton, T_s0 P hk, a_unit P.m (Nat.le_refl _) hk]
  congr 1
  refine List.map_congr_left fun j _ => T_s0 P hk j
theorem range_self (l : List Int) (n : Nat) (h : l.length = n) : (List.range n).map (fun j => l.getD j 0) = l := by
  apply List.ext_getElem?
  intro j
  rw [List.getElem?_map]
  by_cases hj : j < n
  · rw [List.getElem?_range hj, List.getElem?_eq_getElem (by omega)]
    show some (l.getD j 0) = _
    rw [List.getD_eq_getElem?_getD, List.getElem?_eq_getElem (by omega)]
    rfl
  · rw [List.getElem?_eq_none (by simp; omega), List.getElem?_eq_none (by omega)]
    rfl
def bdF (m : Nat) : List Int := List.replicate m 0 ++ [1]
theorem bdF_len (m : Nat) : (bdF m).length = m + 1 := by simp [bdF]
theorem bdF_at {m i : Nat} (hi : i < m + 1) : (bdF m)[i]? = some (ev1 m i) := by
  unfold bdF ev1
  by_cases h : i < m
  · rw [List.getElem?_append_left (by simpa using h), List.getElem?_replicate, if_pos h, if_neg (by omega)]
  · have e : i = m := by omega
    subst e
    rw [List.getElem?_append_right (by simp), List.length_replicate, Nat.sub_self, if_pos rfl]
    rfl
section
variable {n : Nat} {rs : List (List Int)}
theorem amat_len : (amat n rs).length = rs.length + 1 := by simp [amat]
theorem trw_len {r : List Int} (h : r.length = n) : (trw r).length = 2 * n + 1 := by simp [trw, h]; omega
theorem lastRw_len : (lastRw n).length = 2 * n + 1 := by simp [lastRw]
theorem amat_lens (hl : ∀ r ∈ rs, r.length = n) : ∀ r ∈ amat n rs, r.length = 2 * n + 1 := fun r hr => by
  unfold amat at hr
  rcases List.mem_append.mp hr with h | h
  · obtain ⟨q, hq, rfl⟩ := List.mem_map.mp h
    exact trw_len (hl q hq)
  · rw [List.mem_singleton.mp h]
    exact lastRw_len
theorem sys_rows (hl : ∀ r ∈ rs, r.length = n) : ((amat n rs).zip (bdF rs.length)).map (fun p => p.1 ++ [p.2]) = (sysP n rs).rowsOf (sysP n rs).s0 := by
  apply List.ext_getElem?
  intro i
  unfold Pb.rowsOf
  have hm : (sysP n rs).m = rs.length := rfl
  rw [List.getElem?_map, List.getElem?_map, List.zip, List.getElem?_zipWith, hm]
  by_cases hi : i < rs.length + 1
  · rw [List.getElem?_range hi, bdF_at hi, List.getElem?_eq_getElem (by rw [amat_len]; exact hi)]
    have hla : i < (amat n rs).length := by rw [amat_len]; exact hi
    show some ((amat n rs)[i] ++ [ev1 rs.length i]) = some ((sysP n rs).rowOf (sysP n rs).s0 i)
    rw [rowOf_s0 _ (by show i < rs.length + 2; omega)]
    congr 2
    have hg : (amat n rs).getD i [] = (amat n rs)[i]'(by rw [amat_len]; exact hi) := by
      rw [List.getD_eq_getElem?_getD, List.getElem?_eq_getElem (by rw [amat_len]; exact hi)]
      rfl
    have e : ∀ j, j ∈ List.range (2 * n + 1) → (sysP n rs).a j i = ((amat n rs)[i]'(by rw [amat_len]; exact hi)).getD j 0 := fun j hj => by
      have := List.mem_range.mp hj
      show sysA n rs j i = _
      unfold sysA cell
      rw [if_pos this, if_neg (by omega), hg]
    show _ = (List.range (2 * n + 1)).map fun j => (sysP n rs).a j i
    rw [List.map_congr_left e, range_self _ _ (amat_lens hl _ (List.getElem_mem _))]
  · rw [List.getElem?_eq_none (l := amat n rs) (by rw [amat_len]; omega), List.getElem?_eq_none (l := List.range _) (by simp; omega)]
    rfl
theorem sys_goal : (lastRw n).map (fun x => 0 - x) ++ [0] = (sysP n rs).rowOf (sysP n rs).s0 ((sysP n rs).m + 1) := by
  have hm : (sysP n rs).m = rs.length := rfl
  rw [rowOf_s0 _ (by omega), hm]
  have e0 : ev1 rs.length (rs.length + 1) = 0 := by unfold ev1; rw [if_neg (by omega)]
  rw [e0]
  congr 1
  have e : ∀ j, j ∈ List.range (2 * n + 1) → (sysP n rs).a j (rs.length + 1) = ((lastRw n).map fun x => 0 - x).getD j 0 := fun j hj => by
    have hj2 := List.mem_range.mp hj
    show sysA n rs j (rs.length + 1) = _
    unfold sysA cell
    rw [if_pos hj2, if_pos rfl, amat_last, List.getD_eq_getElem?_getD, List.getD_eq_getElem?_getD, List.getElem?_map, List.getElem?_eq_getElem (by rw [lastRw_len]; exact hj2)]
    have hll : j < (lastRw n).length := by rw [lastRw_len]; exact hj2
    show -(lastRw n)[j] = 0 - (lastRw n)[j]
    omega
  show _ = (List.range (2 * n + 1)).map fun j => (sysP n rs).a j (rs.length + 1)
  rw [List.map_congr_left e, range_self _ _ (by rw [List.length_map, lastRw_len])]
theorem sys_cell (hb : ∀ r ∈ rs, ∀ x ∈ r, x.natAbs ≤ 2 ^ 72) (i j : Nat) : (cell n rs i j).natAbs ≤ 2 ^ 72 := by
  unfold cell
  rw [List.getD_eq_getElem?_getD, List.getD_eq_getElem?_getD]
  cases h : (amat n rs)[i]? with
  | none => show Int.natAbs ((([] : List Int)[j]?).getD 0) ≤ _; simp
  | some r =>
    show Int.natAbs ((r[j]?).getD 0) ≤ _
    cases h2 : r[j]? with
    | none => show Int.natAbs 0 ≤ _; simp
    | some x =>
      show Int.natAbs x ≤ _
      have hr := List.mem_of_getElem? h
      have hx := List.mem_of_getElem? h2
      unfold amat at hr
      rcases List.mem_append.mp hr with h | h
      · obtain ⟨q, hq, rfl⟩ := List.mem_map.mp h
        unfold trw at hx
        rcases List.mem_append.mp hx with hx | hx
        · rcases List.mem_append.mp hx with hx | hx
          · obtain ⟨y, hy, rfl⟩ := List.mem_map.mp hx
            have := hb q hq y hy
            omega
          · exact hb q hq x hx
        · rw [List.mem_singleton.mp hx]; decide
      · rw [List.mem_singleton.mp h] at hx
        unfold lastRw at hx
        rcases List.mem_append.mp hx with hx | hx
        · rw [List.eq_of_mem_replicate hx]; decide
        · rw [List.mem_singleton.mp hx]; decide
theorem sys_bd (hb : ∀ r ∈ rs, ∀ x ∈ r, x.natAbs ≤ 2 ^ 72) (x i : Nat) : ((sysP n rs).a x i).natAbs ≤ 2 ^ 72 := by
  show (sysA n rs x i).natAbs ≤ _
  unfold sysA
  split
  · split
    · rw [Int.natAbs_neg]; exact sys_cell hb _ _
    · exact sys_cell hb _ _
  · unfold ev1
    split <;> decide
end
end Kb
namespace Kb
/-! keys by rows -/
theorem sm_shift (n : Nat) (f : Nat → Int) : sm (n + 1) f = f 0 + sm n fun k => f (k + 1) := by
  rw [Nat.add_comm, sm_split, sm_succ, sm_zero, Int.zero_add]
  congr 1
  exact sm_congr fun k _ => by rw [Nat.add_comm]
theorem sm_pairs : ∀ (K : Nat) (f : Nat → Int), sm (2 * K) f = sm K fun k => f (2 * k) + f (2 * k + 1)
  | 0, f => rfl
  | K + 1, f => by rw [show 2 * (K + 1) = 2 * K + 1 + 1 by omega, sm_succ, sm_succ, sm_succ, sm_pairs K]; omega
theorem dot_sm : ∀ (a b : List Int), a.length = b.length → dotF a b = sm a.length fun i => a.getD i 0 * b.getD i 0
  | [], [], _ => rfl
  | [], _ :: _, h => by simp at h
  | _ :: _, [], h => by simp at h
  | x :: a, y :: b, h => by
    have ih := dot_sm a b (by simpa using h)
    unfold dotF at ih ⊢
    rw [List.zipWith_cons_cons, List.sum_cons, ih, List.length_cons, sm_shift]
    rfl
/-- the rule's numbers in a row -/
def rlN (rl : List (Int × Int)) (j : Nat) : Int := if j % 2 = 0 then (rl.getD (j / 2) (0, 0)).1 else (rl.getD (j / 2) (0, 0)).2
theorem key_dot {K : Nat} {s : Sg2} (h1 : s.1.k < K) (h2 : s.2.k < K) (rl : List (Int × Int)) : sm (2 * K) (fun j => (rowF K s.1 s.2).getD j 0 * rlN rl j) = keyF rl s.2 - keyF rl s.1 := by
  rw [sm_pairs]
  have e : ∀ k, k < K → (rowF K s.1 s.2).getD (2 * k) 0 * rlN rl (2 * k) + (rowF K s.1 s.2).getD (2 * k + 1) 0 * rlN rl (2 * k + 1) = (if s.2.k = k then keyF rl s.2 else 0) - (if s.1.k = k then keyF rl s.1 else 0) := fun k hk => by
    have c0 := col_at h1 h2 hk (pl := 0) (by omega)
    have c1 := col_at h1 h2 hk (pl := 1) (by omega)
    rw [Nat.add_zero] at c0
    have r0 : rlN rl (2 * k) = (rl.getD k (0, 0)).1 := by
      unfold rlN
      rw [if_pos (by omega), show 2 * k / 2 = k by omega]
    have r1 : rlN rl (2 * k + 1) = (rl.getD k (0, 0)).2 := by
      unfold rlN
      rw [if_neg (by omega), show (2 * k + 1) / 2 = k by omega]
    rw [c0, c1, r0, r1]
    have j0 : ∀ j : Jb, jAt j 0 = j.t := fun j => rfl
    have j1 : ∀ j : Jb, jAt j 1 = j.u := fun j => rfl
    unfold keyF
    rw [j0, j1, j0, j1]
    by_cases a2 : s.2.k = k <;> by_cases a1 : s.1.k = k
    · rw [if_pos a2, if_pos a1, if_pos a2, if_pos a1, if_pos a2, if_pos a1, a1, a2]; grind
    · rw [if_pos a2, if_neg a1, if_pos a2, if_neg a1, if_pos a2, if_neg a1, a2]; grind
    · rw [if_neg a2, if_pos a1, if_neg a2, if_pos a1, if_neg a2, if_pos a1, a1]; grind
    · rw [if_neg a2, if_neg a1, if_neg a2, if_neg a1, if_neg a2, if_neg a1]; grind
  rw [sm_congr e]
  have e2 : sm K (fun k => (if s.2.k = k then keyF rl s.2 else 0) - (if s.1.k = k then keyF rl s.1 else 0)) = sm K (fun k => if s.2.k = k then keyF rl s.2 else 0) - sm K (fun k => if s.1.k = k then keyF rl s.1 else 0) := by rw [← sm_sub]
  rw [e2, sm_one h2 (f := fun k => if s.2.k = k then keyF rl s.2 else 0) fun k _ hne => if_neg (Ne.symm hne), sm_one h1 (f := fun k => if s.1.k = k then keyF rl s.1 else 0) fun k _ hne => if_neg (Ne.symm hne), if_pos rfl, if_pos rfl]
theorem getD_map' {α β : Type} (f : α → β) (l : List α) (i : Nat) (d : α) (e : β) (h : i < l.length) : (l.map f).getD i e = f (l.getD i d) := by
  rw [List.getD_eq_getElem?_getD, List.getD_eq_getElem?_getD, List.getElem?_map, List.getElem?_eq_getElem h]
  rfl
/-- a rule that fits and a quarrel exclude each other -/
theorem fits_no {K : Nat} {ss : List Sg2} (hs : ∀ s ∈ ss, s.1.k < K ∧ s.2.k < K) {rl : List (Int × Int)} {v : List Int} (hf : fitsF rl ss = true) (hq : LQ K ss v) : False := by
  let dj : Jb := ⟨0, 0, 0⟩
  have hm : ∀ i, i < ss.length → ss.getD i (dj, dj) ∈ ss := fun i hi => by
    rw [List.getD_eq_getElem?_getD, List.getElem?_eq_getElem hi]
    exact List.getElem_mem hi
  have hv : ∀ i, i < ss.length → 0 ≤ v.getD i 0 := fun i hi => hq.nn _ (by
    rw [List.getD_eq_getElem?_getD, List.getElem?_eq_getElem (by rw [hq.len]; exact hi)]
    exact List.getElem_mem _)
  have gap : ∀ i, i < ss.length → 1 ≤ keyF rl (ss.getD i (dj, dj)).2 - keyF rl (ss.getD i (dj, dj)).1 := fun i hi => by
    have := List.all_eq_true.mp hf _ (hm i hi)
    have := of_decide_eq_true this
    omega
  -- each column comes to nothing
  have col : ∀ j, j < 2 * K → sm ss.length (fun i => (rowF K (ss.getD i (dj, dj)).1 (ss.getD i (dj, dj)).2).getD j 0 * v.getD i 0) = 0 := fun j hj => by
    have hd := col_dot hs v (k := j / 2) (pl := j % 2) (by omega) (by omega)
    have hb := hq.bal (j / 2) (by omega) (j % 2) (by omega)
    rw [show 2 * (j / 2) + j % 2 = j by omega, dot_sm _ _ (by rw [List.length_map]; exact hq.len.symm), List.length_map] at hd
    rw [sm_congr (g := fun i => ((ss.map fun s => (rowF K s.1 s.2).getD j 0).getD i 0) * v.getD i 0) fun i hi => by rw [getD_map' _ ss i (dj, dj) 0 hi], hd]
    omega
  have tot : sm ss.length (fun i => v.getD i 0 * (keyF rl (ss.getD i (dj, dj)).2 - keyF rl (ss.getD i (dj, dj)).1)) = 0 := by
    have e : ∀ i, i < ss.length → v.getD i 0 * (keyF rl (ss.getD i (dj, dj)).2 - keyF rl (ss.getD i (dj, dj)).1) = sm (2 * K) fun j => rlN rl j * ((rowF K (ss.getD i (dj, dj)).1 (ss.getD i (dj, dj)).2).getD j 0 * v.getD i 0) := fun i hi => by
      have h := hs _ (hm i hi)
      rw [← key_dot h.1 h.2 rl, ← sm_mul]
      exact sm_congr fun j _ => by grind
    rw [sm_congr e, sm_swap]
    exact sm_none fun j hj => by rw [sm_mul, col j hj, Int.mul_zero]
  obtain ⟨x, hx, h0⟩ := hq.ps
  obtain ⟨i, hi⟩ := List.getElem?_of_mem hx
  have hil : i < ss.length := by rw [← hq.len]; exact (List.getElem?_eq_some_iff.mp hi).1
  have e0 : v.getD i 0 = x := by rw [List.getD_eq_getElem?_getD, hi]; rfl
  rw [sm_pick hil] at tot
  have n1 : 0 ≤ sm ss.length (fun k => if k = i then 0 else v.getD k 0 * (keyF rl (ss.getD k (dj, dj)).2 - keyF rl (ss.getD k (dj, dj)).1)) := sm_nonneg fun k hk => by
    split
    · exact Int.le_refl 0
    · exact Int.mul_nonneg (hv k hk) (by have := gap k hk; omega)
  have n2 : 0 < v.getD i 0 * (keyF rl (ss.getD i (dj, dj)).2 - keyF rl (ss.getD i (dj, dj)).1) := Int.mul_pos (by omega) (by have := gap i hil; omega)
  omega
/-- the numbers of a rule told back -/
theorem evens_at : ∀ (K : Nat) (l : List Int), l.length = 2 * K → (evens l).length = K ∧ ∀ j, j < 2 * K → rlN (evens l) j = l.getD j 0
  | 0, [], _ => ⟨rfl, fun j hj => by omega⟩
  | 0, _ :: _, h => by simp at h
  | K + 1, [], h => by simp at h
  | K + 1, [_], h => by simp at h; omega
  | K + 1, a :: b :: l, h => by
    obtain ⟨h1, h2⟩ := evens_at K l (by simp at h; omega)
    refine ⟨by rw [evens, List.length_cons, h1], fun j hj => ?_⟩
    rw [evens]
    match j with
    | 0 => rfl
    | 1 => rfl
    | j + 2 =>
      have := h2 j (by omega)
      unfold rlN at this ⊢
      rw [show (j + 2) % 2 = j % 2 by omega, show (j + 2) / 2 = j / 2 + 1 by omega, List.getD_cons_succ, this, List.getD_cons_succ, List.getD_cons_succ]
theorem evens_mem : ∀ (l : List Int) (p : Int × Int), p ∈ evens l → p.1 ∈ l ∧ p.2 ∈ l
  | [], p, h => by cases h
  | [_], p, h => by cases h
  | a :: b :: l, p, h => by
    rw [evens] at h
    rcases List.mem_cons.mp h with h | h
    · rw [h]; exact ⟨List.mem_cons_self, List.mem_cons_of_mem _ List.mem_cons_self⟩
    · have := evens_mem l p h
      exact ⟨List.mem_cons_of_mem _ (List.mem_cons_of_mem _ this.1), List.mem_cons_of_mem _ (List.mem_cons_of_mem _ this.2)⟩
/-! sights -/
def rsOf (K : Nat) (ss : List Sg2) : List (List Int) := ss.map fun s => rowF K s.1 s.2
def ptsF (n : Nat) (P : Pb) (e : Ns) : List Int := (List.range n).map fun k => P.pt e k - P.pt e (n + k)
def wtsF (P : Pb) (e : Ns) : List Int := (List.range P.m).map fun i => P.T e (P.m + 1) (P.nu + i)
theorem range_getD (n : Nat) (f : Nat → Int) {k : Nat} (h : k < n) : ((List.range n).map f).getD k 0 = f k := by
  rw [List.getD_eq_getElem?_getD, List.getElem?_map, List.getElem?_range h]
  rfl
theorem sol_fits {K : Nat} {ss : List Sg2} (hs : ∀ s ∈ ss, s.1.k < K ∧ s.2.k < K) {e : Ns} (O : (sysP (2 * K) (rsOf K ss)).Ok e) (S : (sysP (2 * K) (rsOf K ss)).Sol e) : fitsF (evens (ptsF (2 * K) (sysP (2 * K) (rsOf K ss)) e)) ss = true := by
  unfold fitsF
  rw [List.all_eq_true]
  intro s hm
  obtain ⟨i, hi⟩ := List.getElem?_of_mem hm
  have hil := (List.getElem?_eq_some_iff.mp hi).1
  have hb := sysB (n := 2 * K) (rs := rsOf K ss) (fun r hr => by
    obtain ⟨q, _, rfl⟩ := List.mem_map.mp hr
    exact rowF_len _ _ _) O S (i := i) (by rw [rsOf, List.length_map]; exact hil)
  have er : (rsOf K ss).getD i [] = rowF K s.1 s.2 := by
    unfold rsOf
    rw [List.getD_eq_getElem?_getD, List.getElem?_map, hi]
    rfl
  rw [er] at hb
  obtain ⟨h1, h2⟩ := evens_at K (ptsF (2 * K) (sysP (2 * K) (rsOf K ss)) e) (by simp [ptsF])
  have h := hs s hm
  have kd := key_dot h.1 h.2 (evens (ptsF (2 * K) (sysP (2 * K) (rsOf K ss)) e))
  have e2 : sm (2 * K) (fun j => (rowF K s.1 s.2).getD j 0 * rlN (evens (ptsF (2 * K) (sysP (2 * K) (rsOf K ss)) e)) j) = sm (2 * K) fun k => (rowF K s.1 s.2).getD k 0 * ((sysP (2 * K) (rsOf K ss)).pt e k - (sysP (2 * K) (rsOf K ss)).pt e (2 * K + k)) := sm_congr fun j hj => by
    rw [h2 j hj]
    unfold ptsF
    rw [range_getD _ _ hj]
  rw [e2] at kd
  exact decide_eq_true (by omega)
theorem ter_LQ {K : Nat} {ss : List Sg2} (hs : ∀ s ∈ ss, s.1.k < K ∧ s.2.k < K) {e : Ns} (O : (sysP (2 * K) (rsOf K ss)).Ok e) (F : (sysP (2 * K) (rsOf K ss)).First e) (t : (sysP (2 * K) (rsOf K ss)).Ter e) : LQ K ss (wtsF (sysP (2 * K) (rsOf K ss)) e) := by
  have hm : (sysP (2 * K) (rsOf K ss)).m = ss.length := by show (rsOf K ss).length = _; rw [rsOf, List.length_map]
  have hm2 : (rsOf K ss).length = ss.length := by rw [rsOf, List.length_map]
  obtain ⟨h1, h2, h3⟩ := sysW (n := 2 * K) (rs := rsOf K ss) (fun r hr => by
    obtain ⟨q, _, rfl⟩ := List.mem_map.mp hr
    exact rowF_len _ _ _) O F t
  have hw : ∀ i, i < ss.length → (wtsF (sysP (2 * K) (rsOf K ss)) e).getD i 0 = (sysP (2 * K) (rsOf K ss)).T e ((rsOf K ss).length + 1) (2 * (2 * K) + 1 + i) := fun i hi => by
    unfold wtsF
    rw [range_getD _ _ (by rw [hm]; exact hi)]
    rfl
  have hlen : (wtsF (sysP (2 * K) (rsOf K ss)) e).length = ss.length := by unfold wtsF; rw [List.length_map, List.length_range, hm]
  let dj : Jb := ⟨0, 0, 0⟩
  refine ⟨hlen, fun x hx => ?_, ?_, fun k hk pl hp => ?_⟩
  · obtain ⟨i, hi, rfl⟩ := List.mem_map.mp hx
    have := List.mem_range.mp hi
    exact h1 i (by rw [hm2, ← hm]; exact this)
  · refine Classical.byContradiction fun hn => ?_
    have : sm (rsOf K ss).length (fun i => (sysP (2 * K) (rsOf K ss)).T e ((rsOf K ss).length + 1) (2 * (2 * K) + 1 + i)) = 0 := sm_none fun i hi => by
      have a := h1 i hi
      rw [← hw i (by omega)] at a ⊢
      have hx : (wtsF (sysP (2 * K) (rsOf K ss)) e).getD i 0 ∈ wtsF (sysP (2 * K) (rsOf K ss)) e := by
        rw [List.getD_eq_getElem?_getD, List.getElem?_eq_getElem (by rw [hlen]; omega)]
        exact List.getElem_mem _
      have : ¬ 0 < (wtsF (sysP (2 * K) (rsOf K ss)) e).getD i 0 := fun z => hn ⟨_, hx, z⟩
      omega
    omega
  · have hd := col_dot hs (wtsF (sysP (2 * K) (rsOf K ss)) e) hk hp
    rw [dot_sm _ _ (by rw [List.length_map, hlen]), List.length_map] at hd
    have h4 := h2 (2 * k + pl) (by omega)
    rw [hm2] at h4
    rw [sm_congr (g := fun i => ((rsOf K ss).getD i []).getD (2 * k + pl) 0 * (sysP (2 * K) (rsOf K ss)).T e (ss.length + 1) (2 * (2 * K) + 1 + i)) fun i hi => by
      rw [getD_map' _ ss i (dj, dj) 0 hi, hw i hi, hm2]
      unfold rsOf
      rw [getD_map' _ ss i (dj, dj) [] hi], h4] at hd
    omega
end Kb
namespace Kb
open PySem PySem.Spec PyProof.Rows L2
/-- table = Table(..); table.improve() -/
theorem x_table {G : Gc} (H : Head G) {A : Around} {N0 : List Str} {sc : Scope} {x : Str} {px p q apos pos pos1 pos2 pos3 : Pos} {e : Expr} {es : List Expr} {sts : List Stmt} {D : DE} {ρ : En} {n : Nat} (nd : N0.Nodup) (i : Nat) (hst : stB (G.sg A N0 sc) i x = true) (hn : nmB N0 sc i x = true) (hi : i < ρ.length) (hr : Room 3 A) (hg : glB sc "Table" = true)
    {P : Pb} {rs : List (List Int)} {bd gl : List Int} {k : Nat} {en : Ns} (ha : EdA (G.sg A N0 sc) wd0 (e :: es) ρ [.lst (rs.map lI), lI bd, lI gl]) (Z : P.Sm) (hrs : rs.length = P.m + 1) (hbd : bd.length = P.m + 1) (hgl : gl.length = P.nu) (hrl : ∀ r ∈ rs, r.length ≤ 100) (eR : (rs.zip bd).map (fun p => p.1 ++ [p.2]) = P.rowsOf P.s0) (eG : gl.map (fun x => 0 - x) ++ [0] = P.rowOf P.s0 (P.m + 1)) (pth : P.Pth k P.s0 en)
    (h : ∀ o, Ex (G.sg A N0 sc) wd0 sts (ρ.set i (.dat (tblE o (tabC G) P en))) n D)
    (he : ∀ env, starEach (e :: es) env = (false, eval e env) :: starEach es env := by intro _; rfl) (hpl : ∀ env, (backTo pos1 (starEach es env)).any (·.1) = false := by intro _; rfl)
    (hs : ∀ env, swapsWith (.Call (.Name "Table" p) (e :: es) [] pos1) (some (.Name x px)) pos.line env = pure false := by intro _; rfl)
    (hs2 : ∀ env, swapsWith (.Call (.Attribute (.Name x q) "improve" apos) [] [] pos2) none pos3.line env = pure false := by intro _; rfl)
    (ht : ∀ env, ∃ pl : Sem Bool, eval (.Call (.Attribute (.Name x q) "improve" apos) [] [] pos2) env = (do
      let ov ← eval (.Name x q) env
      standAt apos.atName
      let (f, first) ← holding [ov] (getMethod ov "improve" pl)
      callWith pos2 f first (backTo pos2 (starEach [] env)) (backToKw pos2 (keywordEach [] env))) := by intro _; exact ⟨_, rfl⟩) :
    Ex (G.sg A N0 sc) wd0 (.Assign [.Name x px] (.Call (.Name "Table" p) (e :: es) [] pos1) pos :: .Expr (.Call (.Attribute (.Name x q) "improve" apos) [] [] pos2) pos3 :: sts) ρ n D := fun M Hb ad σ H0 D' E R => by
  obtain ⟨h1, h2, h3⟩ := stB_ok hst
  refine ws_cons ⟨tAsg (wE (G.sg A N0 sc) _) (gName i), fun X c => ps_set (by rw [c.N]; exact nd) (by rw [c.N]; exact h1) (by rw [c.sc]; exact h2) (wE_ok c) (hs _) (by rw [c.fn, c.sc]; exact h3), ?_⟩
  refine wE_make (S := G.sg A N0 sc) (c0 := e) (ok___init__ H) (hr.mono (by decide)) hg (H.glo 11) ?_ he hpl
  refine EdA.go ha E fun vs H1 s1 a1 => ?_
  intro x0 dx0 hx hdx hne
  obtain ⟨v1, v2, v3, rfl, b1, b2, b3⟩ := ats3 a1
  have al1 : ∀ a, Mx M ad ρ a → ∃ ob, H1 a = some ob := fun a z => by
    obtain ⟨ob, e⟩ := E.mal z
    exact ⟨ob, s1 _ _ e⟩
  have up : ∀ a ob, H1 a = some ob → upd (upd H1 dx0 (.own x0)) x0 (.ins (tabC G) dx0 []) a = some ob := fun a ob e => by
    rw [upd_ne (ne_of_none e hx), upd_ne (ne_of_none e hdx)]
    exact e
  have nx : ¬ Mx M ad ρ x0 := fun z => by
    obtain ⟨ob, e⟩ := al1 x0 z
    rw [hx] at e
    cases e
  have a2 : Ats (fun a => Mx M ad ρ a ∨ a = x0) (upd (upd H1 dx0 (.own x0)) x0 (.ins (tabC G) dx0 [])) [.lst (rs.map lI), lI bd, lI gl] [v1, v2, v3] := (a1.more hx).mono (fun _ z => z) fun a ob _ e => up a ob e
  refine ⟨Mx M ad ρ, x0, dx0, P, rs, bd, gl, v1, v2, v3, by rw [List.append_nil], fun a z => ?_, nx, upd_same, a2, Z, hrs, hbd, hgl, hrl, eR, eG, fun H3 cs bs k3 fc fb T3 => ⟨rfl, ?_⟩⟩
  · obtain ⟨ob, e⟩ := al1 a z
    exact ⟨ob, up _ _ e⟩
  have k30 : ∀ a ob, H0 a = some ob → H3 a = some ob := fun a ob e => k3 a ob (ne_of_none (s1 _ _ e) hx) (up _ _ (s1 _ _ e))
  obtain ⟨dx, rv, gv, ho, _, _⟩ := T3.ob
  have hσ : (σ.set i (some (.ref x0)))[i]? = some (some (.ref x0)) := by
    rw [List.getElem?_set, if_pos rfl, if_pos (by rw [E.len]; exact hi)]
  refine ws_cons (wS_expr (wE_meth0 (S := G.sg A N0 sc) (ok_improve H) H.cls hr (i := i) hn ?_ ht) hs2)
  refine ⟨.ref x0, hσ, x0, dx, _, rfl, ho, look_none (show ("improve" : Str) ∉ tabKeys by decide), ?_⟩
  refine ⟨Mx M ad ρ, x0, cs, bs, P, P.s0, en, k, rfl, fun a z => ?_, T3, Z, pth, fun H4 k4 T4 => ?_⟩
  · obtain ⟨ob, e⟩ := E.mal z
    exact ⟨ob, k30 _ _ e⟩
  have s04 : Same H0 H4 := fun a ob e => by
    have e1 := up _ _ (s1 _ _ e)
    exact k4 a ob (ne_of_none (s1 _ _ e) hx) (fun z => by rw [z] at e1; exact Option.some_ne_none _ (e1.symm.trans fc)) (fun z => by rw [z] at e1; exact Option.some_ne_none _ (e1.symm.trans fb)) (k30 _ _ e)
  exact h x0 M Hb ad _ H4 D' ((E.keep (Kw.of s04) trivial).set T4.full) R
def SolR (P : Pb) (n : Nat) (e : Ns) (d : Dat) : Prop := (P.Sol e ∧ d = .tup [tI (ptsF n P e), .non]) ∨ (P.First e ∧ d = .tup [.non, tI (wtsF P e)])
/-- small rows -/
structure RsOk (n : Nat) (rs : List (List Int)) : Prop where
  nn : n ≤ 40
  m : rs.length ≤ 20
  len : ∀ r ∈ rs, r.length = n
  bd : ∀ r ∈ rs, ∀ x ∈ r, x.natAbs ≤ 2 ^ 72
theorem RsOk.sm {n : Nat} {rs : List (List Int)} (h : RsOk n rs) : (sysP n rs).Sm := ⟨h.m, by show 2 * n + 1 ≤ 100; have := h.nn; omega, fun x _ i _ => sys_bd h.bd x i⟩
abbrev N_solved : List Str := ["n", "system", "rows", "table", "found", "row", "k"]
theorem sc_solved : FnScope N_solved ["n", "system"] (defScope s_solved) := ⟨rfl, rfl, rfl, by decide +kernel, rfl, by decide +kernel, by decide +kernel⟩
def R_solved (ds : List Dat) (d : Dat) : Prop := ∃ (n : Nat) (rs : List (List Int)) (k : Nat) (e : Ns), ds = [nI n, .tup (rs.map fun r => rowE (r, true))] ∧ RsOk n rs ∧ (sysP n rs).Pth k (sysP n rs).s0 e ∧ SolR (sysP n rs) n e d
theorem tableRow_true (r : List Int) : tableRowF (r, true) = trw r := rfl
theorem cutD_last (xs : List Dat) (m : Nat) (h : xs.length = m + 1) : cutD xs none (some (-1)) = xs.take m := by
  unfold cutD
  rw [HT.sIx_none, h]
  have e : HT.sIx (m + 1) (m + 1) (some (-1)) = m := by
    show (if (-1 : Int) < 0 then ((-1 : Int) + ((m + 1 : Nat) : Int)).toNat else min (-1 : Int).toNat (m + 1)) = m
    rw [if_pos (by decide)]
    omega
  rw [e, List.drop_zero, Nat.sub_zero]
theorem ptF_at (P : Pb) (s : Ns) {j : Nat} (h : j < P.nu) : (ptF P s (P.m + 1))[j]? = some (P.pt s j) := by
  unfold ptF
  rw [List.getElem?_map, List.getElem?_range h]
  rfl
theorem ok_solved {G : Gc} (H : Head G) : HasF G "solved" 4 2 (PureSp 2 R_solved) := by
  refine H.pure (st := s_solved) (ps := ["n", "system"]) 21 13 (by kernel_rfl) (by kernel_rfl) sc_solved (fun _ _ _ _ _ _ us hl => match us, hl with | [_, _], _ => rfl) fun A hr ds d hl hR => ?_
  have nd := sc_solved.nd
  obtain ⟨n, rs, k, e, rfl, ro, pth, hd⟩ := hR
  have hn := ro.nn
  have hm := ro.m
  have Z := ro.sm
  obtain ⟨Oe, Te, _⟩ := Pth.end_ pth
  have c2 : CMulW 2 (n : Int) := cm (j := 2) (k := 7) (by decide) (by show (n : Int).natAbs < 2 ^ 7; omega)
  have e2n : (2 : Int) * (n : Int) = ((2 * n : Nat) : Int) := by omega
  have zr : (List.replicate ((2 * n : Nat) : Int).toNat [Dat.int 0]).flatten = (List.replicate (2 * n) (0 : Int)).map Dat.int := by
    rw [Int.toNat_natCast, List.map_replicate]
    simp
  have hlr := amat_lens (n := n) ro.len
  refine x_cons (xd_setN (ds := (amat n rs).map lI) nd 2 (by kernel_rfl) (by simp [startE]) (EdN.is (edn_op (EdN.ed (edn_lcm nd [("row", 5)] (by kernel_rfl) (ys := rs) (enc := fun r => rowE (r, true)) (f := fun r => lI (trw r)) (edi_tup (ed_nm 1 (by kernel_rfl) rfl)) (by omega) (fun y hy => ⟨_, _, (by simp), (gd_nm nd 5 (by kernel_rfl)), (ed_call (ok_table_row H) (hr.mono (by decide)) (by kernel_rfl) (eda_cons (ed_nm 5 (by kernel_rfl) rfl) eda_nil) ⟨(y, true), rfl, by have := ro.len y hy; show y.length ≤ 100; omega, rfl⟩)⟩))) (EdN.ed (edn_lst (eda_cons (EdN.ed (EdN.is (edn_op (EdN.ed (edn_op (EdN.ed (edn_lst (eda_cons ed_int eda_nil))) (ed_op ed_int (ed_nm 0 (by kernel_rfl) rfl) (o_mul c2)) (on_rep (by omega) (by omega) (by simp; omega)))) (EdN.ed (edn_lst (eda_cons ed_int eda_nil))) (on_cat (by simp; omega))) (show _ = (lastRw n).map Dat.int by rw [e2n, zr]; simp [lastRw]))) eda_nil) (by simp))) (on_cat (by simp; omega))) (by simp [amat, Function.comp_def])) ?_)
  refine x_freeze (i := 2) rfl ?_
  refine x_table H nd 3 (by kernel_rfl) (by kernel_rfl) (by simp [startE]) (hr.mono (by decide)) (by kernel_rfl) (P := sysP n rs) (rs := amat n rs) (bd := bdF rs.length) (gl := lastRw n) (k := k) (en := e) (eda_cons (ed_nm 2 (by kernel_rfl) rfl) (eda_cons (EdN.ed (EdN.is (edn_op (EdN.ed (edn_op (EdN.ed (edn_lst (eda_cons ed_int eda_nil))) (ed_len (xs := rs.map fun r => rowE (r, true)) (by kernel_rfl) (H.free 69) (ed_nm 1 (by kernel_rfl) rfl) (by exact rfl)) (on_rep (by omega) (by simp; omega) (by simp; omega)))) (EdN.ed (edn_lst (eda_cons ed_int eda_nil))) (on_cat (by simp; omega))) (show _ = (bdF rs.length).map Dat.int by simp [bdF]))) (eda_cons (EdN.ed (EdN.is (edn_op (EdN.ed (edn_op (EdN.ed (edn_lst (eda_cons ed_int eda_nil))) (ed_op ed_int (ed_nm 0 (by kernel_rfl) rfl) (o_mul c2)) (on_rep (by omega) (by omega) (by simp; omega)))) (EdN.ed (edn_lst (eda_cons ed_int eda_nil))) (on_cat (by simp; omega))) (show _ = (lastRw n).map Dat.int by rw [e2n, zr]; simp [lastRw]))) eda_nil))) Z amat_len (bdF_len _) lastRw_len (fun r hr' => by have := hlr r hr'; omega) (sys_rows ro.len) sys_goal pth (fun o => ?_)
  refine x_cons (xd_if (b := decide ((0 : Int) < (sysP n rs).T e ((sysP n rs).m + 1) ((sysP n rs).nu + (sysP n rs).m))) (etd_cmp (ed_ix (ed_fldD H.cls (H.noat 92) (ed_nm 3 (by kernel_rfl) rfl) tf_goal) (ed_neg ed_int) (.lst (row_last Oe _))) ed_int o_gt) (fun h => ?_) (fun h => x_nil ?_))
  · have hp := of_decide_eq_true h
    have S : (sysP n rs).Sol e ∧ d = .tup [tI (ptsF n (sysP n rs) e), .non] := by
      rcases hd with h1 | ⟨F, _⟩
      · exact h1
      · rw [G_bas Oe (List.mem_of_getElem? F)] at hp
        omega
    obtain ⟨S, rfl⟩ := S
    refine x_cons (xd_set nd 4 (by kernel_rfl) (ed_meth0 (ok_point H) H.cls (hr.mono (by decide)) (ed_nm 3 (by kernel_rfl) rfl) (by decide) ⟨o, _, e, rfl, Oe, Z, rfl⟩) ?_)
    refine x_one (x_ret (Ed.ev (ed_tup (eda_cons (ed_tupleL (by kernel_rfl) (H.free 78) (EdN.ed (edn_lcm nd [("k", 6)] (by kernel_rfl) (ys := List.range n) (enc := fun i => Dat.int (i : Nat)) (f := fun k => .int ((sysP n rs).pt e k - (sysP n rs).pt e (n + k))) (EdI.is (edi_rng1 (by kernel_rfl) (H.free 73) (ed_nm 0 (by kernel_rfl) rfl) (by omega) (by omega)) (by rw [Int.toNat_natCast, rgD_range])) (by rw [List.length_range]; omega) (fun y hy => ⟨_, _, (by simp), (gd_nm nd 6 (by kernel_rfl)), ?_⟩)))) (eda_cons ed_non eda_nil)) (by simp)) ?_))
    · have hy2 := List.mem_range.mp hy
      have hnu : (sysP n rs).nu = 2 * n + 1 := rfl
      exact (ed_op (ed_ix (ed_nm 4 (by kernel_rfl) rfl) (ed_nm 6 (by kernel_rfl) rfl) (ixl_nat (get_map (ptF_at _ e (j := y) (by omega))))) (ed_ix (ed_nm 4 (by kernel_rfl) rfl) (ed_op (ed_nm 0 (by kernel_rfl) rfl) (ed_nm 6 (by kernel_rfl) rfl) o_add) (show Ix _ ((n : Int) + (y : Int)) _ by rw [show (n : Int) + (y : Int) = ((n + y : Nat) : Int) by omega]; exact ixl_nat (get_map (ptF_at _ e (j := n + y) (by omega))))) o_sub)
    · simp [ptsF, tI, Function.comp_def]
  · have hp := of_decide_eq_false h
    have F : (sysP n rs).First e ∧ d = .tup [.non, tI (wtsF (sysP n rs) e)] := by
      rcases hd with ⟨S, _⟩ | h1
      · have := S.top
        have := Oe.pos
        omega
      · exact h1
    obtain ⟨F, rfl⟩ := F
    refine x_one (x_ret (Ed.ev (ed_tup (eda_cons ed_non (eda_cons (ed_tupleL (by kernel_rfl) (H.free 78) (EdN.ed (edn_slice (ed_meth0 (ok_multipliers H) H.cls (hr.mono (by decide)) (ed_nm 3 (by kernel_rfl) rfl) (by decide) ⟨o, _, e, rfl, Oe, Z, rfl⟩) .none (.some (ed_neg ed_int))))) eda_nil)) (by simp)) ?_))
    rw [cutD_last _ (sysP n rs).m (by rw [List.length_map, mlF_len]), mlF_end Oe]
    simp only [tI, wtsF, List.map_take, List.take_range, Nat.min_eq_left (Nat.le_succ _), ← List.map_take]
end Kb
namespace Kb
open PySem PySem.Spec PyProof.Rows L2
abbrev stP (K : Nat) (ss : List Sg2) : Pb := sysP (2 * K) (rsOf K ss)
theorem rs_ok {K : Nat} {ss : List Sg2} (h : okS K ss) (hK : K ≤ 3) (hz : ss.length ≤ 20) : RsOk (2 * K) (rsOf K ss) := by
  refine ⟨by omega, by rw [rsOf, List.length_map]; exact hz, fun r hr => ?_, fun r hr x hx => ?_⟩
  · obtain ⟨s, _, rfl⟩ := List.mem_map.mp hr
    exact rowF_len _ _ _
  · obtain ⟨s, hs, rfl⟩ := List.mem_map.mp hr
    obtain ⟨h1, h2⟩ := h.2 s hs
    have := bd_vless (k := 69) (vecF_bd h2.t.2 h2.u.2) (vecF_bd h1.t.2 h1.u.2) x hx
    exact Nat.le_of_lt (this.mono (by decide : 71 ≤ 72))
theorem rs_enc (K : Nat) (ss : List Sg2) : (rsOf K ss).map (fun r => rowE (r, true)) = (rowsOfF K ss).map rowE := by
  unfold rsOf rowsOfF
  rw [List.map_map, List.map_map]
  rfl
abbrev N_find_fitting : List Str := ["kinds", "sights", "point"]
theorem sc_find_fitting : FnScope N_find_fitting ["kinds", "sights"] (defScope s_find_fitting) := ⟨rfl, rfl, rfl, by decide +kernel, rfl, by decide +kernel, by decide +kernel⟩
def toldF (K : Nat) (ss : List Sg2) (e : Ns) : List (Int × Int) := evens (ptsF (2 * K) (stP K ss) e)
def R_find_fitting (ds : List Dat) (d : Dat) : Prop := ∃ (K : Nat) (ss : List Sg2) (k : Nat) (e : Ns), ds = [nI K, .tup (ss.map sE)] ∧ okS K ss ∧ 1 ≤ K ∧ K ≤ 3 ∧ ss.length ≤ 20 ∧ (stP K ss).Pth k (stP K ss).s0 e ∧ (((stP K ss).Sol e ∧ d = .tup ((toldF K ss e).map pI)) ∨ ((stP K ss).First e ∧ d = .non))
theorem ok_find_fitting {G : Gc} (H : Head G) : HasF G "find_fitting" 5 2 (PureSp 2 R_find_fitting) := by
  refine H.pure (st := s_find_fitting) (ps := ["kinds", "sights"]) 28 20 (by kernel_rfl) (by kernel_rfl) sc_find_fitting (fun _ _ _ _ _ _ us hl => match us, hl with | [_, _], _ => rfl) fun A hr ds d hl hR => ?_
  have nd := sc_find_fitting.nd
  obtain ⟨K, ss, k, e, rfl, os, h1, h3, hz, pth, hd⟩ := hR
  have c2 : CMulW 2 (K : Int) := cm (j := 2) (k := 7) (by decide) (by show (K : Int).natAbs < 2 ^ 7; omega)
  have e2 : (2 : Int) * (K : Int) = ((2 * K : Nat) : Int) := by omega
  rcases hd with ⟨S, rfl⟩ | ⟨F, rfl⟩
  · refine x_cons (xd_set nd 2 (by kernel_rfl) (ed_ix (x := .tup [tI (ptsF (2 * K) (stP K ss) e), .non]) (ed_call (ok_solved H) (hr.mono (by decide)) (by kernel_rfl) (eda_cons (ed_op ed_int (ed_nm 0 (by kernel_rfl) rfl) (o_mul c2)) (eda_cons (ed_call (ok_rows_of H) (hr.mono (by decide)) (by kernel_rfl) (eda_cons (ed_nm 0 (by kernel_rfl) rfl) (eda_cons (ed_nm 1 (by kernel_rfl) rfl) eda_nil)) ⟨K, ss, rfl, os, by omega, rfl⟩) eda_nil)) ⟨2 * K, rsOf K ss, k, e, by rw [rs_enc, e2]; rfl, rs_ok os h3 hz, pth, .inl ⟨S, rfl⟩⟩) ed_int (.tup rfl)) ?_)
    refine x_one (x_ret (Ed.ev (ed_if (b := .Call _ _ _ _) (x := isN (tI (ptsF (2 * K) (stP K ss) e))) (etd_cmp (ed_nm 2 (by kernel_rfl) rfl) ed_non o_isN) (fun h => by cases h) (fun h => (ed_call (ok_rule_of H) (hr.mono (by decide)) (by kernel_rfl) (eda_cons (ed_nm 2 (by kernel_rfl) rfl) eda_nil) ⟨K, ptsF (2 * K) (stP K ss) e, rfl, by simp [ptsF], h1, h3, rfl⟩))) rfl))
  · refine x_cons (xd_set nd 2 (by kernel_rfl) (ed_ix (x := .tup [.non, tI (wtsF (stP K ss) e)]) (ed_call (ok_solved H) (hr.mono (by decide)) (by kernel_rfl) (eda_cons (ed_op ed_int (ed_nm 0 (by kernel_rfl) rfl) (o_mul c2)) (eda_cons (ed_call (ok_rows_of H) (hr.mono (by decide)) (by kernel_rfl) (eda_cons (ed_nm 0 (by kernel_rfl) rfl) (eda_cons (ed_nm 1 (by kernel_rfl) rfl) eda_nil)) ⟨K, ss, rfl, os, by omega, rfl⟩) eda_nil)) ⟨2 * K, rsOf K ss, k, e, by rw [rs_enc, e2]; rfl, rs_ok os h3 hz, pth, .inr ⟨F, rfl⟩⟩) ed_int (.tup rfl)) ?_)
    refine x_one (x_ret (Ed.ev (ed_if (x := isN .non) (etd_cmp (ed_nm 2 (by kernel_rfl) rfl) ed_non o_isN) (fun h => ed_non) (fun h => by cases h)) rfl))
abbrev N_find_quarrel : List Str := ["kinds", "sights"]
theorem sc_find_quarrel : FnScope N_find_quarrel ["kinds", "sights"] (defScope s_find_quarrel) := ⟨rfl, rfl, rfl, by decide +kernel, rfl, by decide +kernel, by decide +kernel⟩
def R_find_quarrel (ds : List Dat) (d : Dat) : Prop := ∃ (K : Nat) (ss : List Sg2) (k : Nat) (e : Ns), ds = [nI K, .tup (ss.map sE)] ∧ okS K ss ∧ 1 ≤ K ∧ K ≤ 3 ∧ ss.length ≤ 20 ∧ (stP K ss).Pth k (stP K ss).s0 e ∧ (((stP K ss).Sol e ∧ d = .non) ∨ ((stP K ss).First e ∧ d = tI (wtsF (stP K ss) e)))
theorem ok_find_quarrel {G : Gc} (H : Head G) : HasF G "find_quarrel" 5 2 (PureSp 2 R_find_quarrel) := by
  refine H.pure (st := s_find_quarrel) (ps := ["kinds", "sights"]) 29 21 (by kernel_rfl) (by kernel_rfl) sc_find_quarrel (fun _ _ _ _ _ _ us hl => match us, hl with | [_, _], _ => rfl) fun A hr ds d hl hR => ?_
  have nd := sc_find_quarrel.nd
  obtain ⟨K, ss, k, e, rfl, os, h1, h3, hz, pth, hd⟩ := hR
  have c2 : CMulW 2 (K : Int) := cm (j := 2) (k := 7) (by decide) (by show (K : Int).natAbs < 2 ^ 7; omega)
  have e2 : (2 : Int) * (K : Int) = ((2 * K : Nat) : Int) := by omega
  rcases hd with ⟨S, rfl⟩ | ⟨F, rfl⟩
  · exact x_one (x_ret (Ed.ev (ed_ix (x := .tup [tI (ptsF (2 * K) (stP K ss) e), .non]) (ed_call (ok_solved H) (hr.mono (by decide)) (by kernel_rfl) (eda_cons (ed_op ed_int (ed_nm 0 (by kernel_rfl) rfl) (o_mul c2)) (eda_cons (ed_call (ok_rows_of H) (hr.mono (by decide)) (by kernel_rfl) (eda_cons (ed_nm 0 (by kernel_rfl) rfl) (eda_cons (ed_nm 1 (by kernel_rfl) rfl) eda_nil)) ⟨K, ss, rfl, os, by omega, rfl⟩) eda_nil)) ⟨2 * K, rsOf K ss, k, e, by rw [rs_enc, e2]; rfl, rs_ok os h3 hz, pth, .inl ⟨S, rfl⟩⟩) ed_int (.tup rfl)) rfl))
  · exact x_one (x_ret (Ed.ev (ed_ix (x := .tup [.non, tI (wtsF (stP K ss) e)]) (ed_call (ok_solved H) (hr.mono (by decide)) (by kernel_rfl) (eda_cons (ed_op ed_int (ed_nm 0 (by kernel_rfl) rfl) (o_mul c2)) (eda_cons (ed_call (ok_rows_of H) (hr.mono (by decide)) (by kernel_rfl) (eda_cons (ed_nm 0 (by kernel_rfl) rfl) (eda_cons (ed_nm 1 (by kernel_rfl) rfl) eda_nil)) ⟨K, ss, rfl, os, by omega, rfl⟩) eda_nil)) ⟨2 * K, rsOf K ss, k, e, by rw [rs_enc, e2]; rfl, rs_ok os h3 hz, pth, .inr ⟨F, rfl⟩⟩) ed_int (.tup rfl)) rfl))
end Kb
namespace Kb
open PySem PySem.Spec PyProof.Rows L2
def opStep (cells : List Int) (p : Int × Nat) : List Int := cells.set (p.2 % 12) (cells.getD (p.2 % 12) 0 + p.1)
def opGo (ns : List Int) (i : Nat) : List Int := ((((ns.drop 12).take 51).zipIdx).take i).foldl opStep (ns.take 12)
def openF (ns : List Int) : List Int := opGo ns ((ns.drop 12).take 51).length
theorem opGo_succ {ns : List Int} {i : Nat} {v : Int} (h : ((ns.drop 12).take 51)[i]? = some v) : opGo ns (i + 1) = opStep (opGo ns i) (v, i) := by
  unfold opGo
  rw [List.take_add_one (i := i), List.getElem?_zipIdx, h, List.foldl_append]
  simp
theorem opGo_len (ns : List Int) : ∀ i, (opGo ns i).length = (ns.take 12).length
  | 0 => rfl
  | i + 1 => by
    cases h : ((ns.drop 12).take 51)[i]? with
    | none =>
      have ih := opGo_len ns i
      unfold opGo at ih ⊢
      rw [List.take_add_one (i := i), List.getElem?_zipIdx, h]
      simpa using ih
    | some v =>
      rw [opGo_succ h]
      unfold opStep
      rw [List.length_set]
      exact opGo_len ns i
abbrev N__law_open : List Str := ["_law_script", "_law_cells", "_law_k", "_law_cell"]
theorem sc__law_open : FnScope N__law_open ["_law_script"] (defScope s__law_open) := ⟨rfl, rfl, rfl, by decide +kernel, rfl, by decide +kernel, by decide +kernel⟩
def R__law_open (ds : List Dat) (d : Dat) : Prop := ∃ ns : List Int, ds = [lI ns] ∧ ns.length ≤ 1000 ∧ d = .lst [lI (openF ns), .int 0, .int 0]
theorem cutD_mid (xs : List Dat) (a b : Nat) (h : a ≤ b) : cutD xs (some (a : Int)) (some (b : Int)) = (xs.drop a).take (b - a) := by
  unfold cutD
  rw [HT.sIx_nat, HT.sIx_nat]
  rcases Nat.le_total a xs.length with h1 | h1
  · rw [Nat.min_eq_left h1]
    rcases Nat.le_total b xs.length with h2 | h2
    · rw [Nat.min_eq_left h2]
    · rw [Nat.min_eq_right h2, List.take_of_length_le (by simp), List.take_of_length_le (by simp; omega)]
  · rw [Nat.min_eq_right h1]
    simp [h1]
theorem ok__law_open {G : Gc} (H : Head G) : HasF G "_law_open" 1 1 (PureSp 1 R__law_open) := by
  refine H.pure (st := s__law_open) (ps := ["_law_script"]) 37 29 (by kernel_rfl) (by kernel_rfl) sc__law_open (fun _ _ _ _ _ _ us hl => match us, hl with | [_], _ => rfl) fun A hr ds d hl hR => ?_
  have nd := sc__law_open.nd
  obtain ⟨ns, rfl, hn, rfl⟩ := hR
  have e1 : cutD (ns.map Dat.int) none (some 12) = (ns.take 12).map Dat.int := by rw [show (12 : Int) = ((12 : Nat) : Int) from rfl, cutD_to, List.map_take]
  have e2 : cutD (ns.map Dat.int) (some 12) (some 63) = ((ns.drop 12).take 51).map Dat.int := by rw [show (12 : Int) = ((12 : Nat) : Int) from rfl, show (63 : Int) = ((63 : Nat) : Int) from rfl, cutD_mid _ _ _ (by decide), List.map_take, List.map_drop]
  refine x_cons (xd_setN nd 1 (by kernel_rfl) (by simp [startE]) (EdN.is (edn_listL (by kernel_rfl) (H.free 70) (EdN.ed (edn_slice (ed_nm 0 (by kernel_rfl) rfl) .none (.some ed_int)))) e1) ?_)
  refine x_cons (x_for (EdI.ev (edi_enum (by kernel_rfl) (H.free 66) (EdN.ed (EdN.is (edn_slice (ed_nm 0 (by kernel_rfl) rfl) (.some ed_int) (.some ed_int)) e2))) ⟨fun i n ρ => n = 0 ∧ ∃ a b, ρ = [.dat (lI ns), .own ((opGo ns i).map Dat.int), a, b], ⟨rfl, .no, .no, rfl⟩, fun i z n2 ρ2 hz ⟨en, a, b, er⟩ => ?_, fun n2 ρ2 ⟨en, a, b, er⟩ => ?_⟩))
  · subst en er
    rw [zipIdx_map', List.map_map, List.getElem?_map, List.getElem?_zipIdx, Option.map_map] at hz
    cases hq : ((ns.drop 12).take 51)[i]? with
    | none => rw [hq] at hz; cases hz
    | some v =>
      rw [hq] at hz
      have ez : z = .tup [.int (i : Nat), .int v] := by
        simp at hz
        exact hz.symm
      subst ez
      have h12 : (opGo ns i).length = 12 := by
        have := (List.getElem?_eq_some_iff.mp hq).1
        rw [List.length_take, List.length_drop] at this
        rw [opGo_len, List.length_take]
        omega
      have hm : (i : Int) % 12 = ((i % 12 : Nat) : Int) := by omega
      have hlt : i % 12 < 12 := Nat.mod_lt _ (by decide)
      have hget : ((opGo ns i).map Dat.int)[i % 12]? = some (.int ((opGo ns i).getD (i % 12) 0)) := get_map (getD_get (by omega))
      refine ⟨_, _, (gd_tup (gds_cons (gd_nm nd 2 (by kernel_rfl)) (gds_cons (gd_nm nd 3 (by kernel_rfl)) gds_nil))), x_one (x_put 1 (by kernel_rfl) rfl (ev_op (ev_peek (i := 1) rfl (Ed.ev (ed_ix (ed_nm 1 (by kernel_rfl) rfl) (ed_op (ed_int1 (by kernel_rfl) (H.free 67) (ed_nm 2 (by kernel_rfl) rfl)) ed_int (o_mod (by decide))) (show Ix _ ((i : Int) % 12) _ by rw [hm]; exact ixl_nat hget)) ⟨⟨_, rfl⟩, Ed.ev (ed_nm 3 (by kernel_rfl) rfl) ⟨_, o_add, Ed.ev (ed_op (ed_int1 (by kernel_rfl) (H.free 67) (ed_nm 2 (by kernel_rfl) rfl)) ed_int (o_mod (by decide))) ⟨_, i % 12, rfl, by rw [hm]; exact ixN_nat (by rw [List.length_map]; omega), rfl, .dat (.int (i : Nat)), .dat (.int v), ?_⟩⟩⟩))))⟩
      rw [opGo_succ hq]
      unfold opStep
      rw [map_set]
      rfl
  · subst en er
    rw [List.length_map, List.length_zipIdx, List.length_map]
    exact x_freeze (i := 1) rfl (x_one (x_ret (Ed.ev (EdN.ed (edn_lst (eda_cons (ed_nm 1 (by kernel_rfl) rfl) (eda_cons ed_int (eda_cons ed_int eda_nil))) (by simp))) rfl)))
end Kb
/-! the script, known to the heap or to the module; the first call of the law -/
namespace Kb
open PySem PySem.Spec PyProof.Rows L2
/-- a list that is tracked or frozen -/
def scT (a : Addr) (xs : List V) : Wd where
  W := fun _ => False
  F := fun b => b = a
  J := fun _ H => Rd H a (.lst xs)
  wf := fun _ h => h.elim
  js := fun n H H' h s => h.elim (fun h => .inl (s _ _ h)) fun ⟨o, h⟩ => .inr ⟨o, s _ _ h⟩
  jm := fun n H l o h nf => h.elim (fun h => .inl (by rw [upd_ne fun z => nf z.symm]; exact h)) fun ⟨o, h⟩ => .inr ⟨o, by rw [upd_ne fun z => nf z.symm]; exact h⟩
  ja := fun n H b h e => by
    rw [e]
    rcases h with h | ⟨o, h⟩
    · exact ⟨_, h⟩
    · exact ⟨_, h⟩
section
variable {S : Sg} {g : Wd} {a : Addr} {ns : List Int} {ρ : En} {x : Str} {p p2 pos : Pos}
theorem edn_sliceR (hJ : ∀ n H, g.J n H → SqL S.K H a (ns.map V.int)) {lo hi : Option Expr} {l h : Option Int} (i : Nat) (hn : nmB S.N S.sc i x = true) (hi' : ρ[i]? = some (.raw a)) (hl : Pt S g ρ lo l) (hh : Pt S g ρ hi h) : EdN S g (.Subscript (.Name x p) (.Slice lo hi none p2) pos) ρ (cutD (ns.map .int) l h) := fun n M Hb ad σ H E Q q =>
  ⟨tSl (wL S) (wE S (.Name x p)) (wP S lo) (wP S hi), fun X c => pe_slice (wL_ok c) (wE_ok c) (wP_ok c) (wP_ok c), wE_nm hn (E.raw i a hi') (by
    refine pt_run hl E fun H2 k2 j2 => pt_run hh (E.keep k2 j2) fun H3 k3 j3 => ?_
    refine ⟨rSlL S.K, fun X c => by rw [← c.K]; exact sl_list, a, ns.map V.int, rfl, hJ _ _ j3, fun p hp => ?_⟩
    exact q _ p _ _ _ (E.fresh_back (k2.trans k3) j3 hp) ((k2.trans k3).trans (Kw.of (same_new hp))) (g.js _ _ _ j3 (same_new hp)) upd_same (cut_ats Ats.of_ints l h) ⟨rfl, rfl⟩)⟩
end
def OpSp (K : PySem.W.Frag) : Sp := fun vs H Q _ => ∃ (a : Addr) (ns : List Int), vs = [.ref a] ∧ SqL K H a (ns.map V.int) ∧ ns.length ≤ 1000 ∧ ∀ v H', Same H H' → At (fun _ => False) H' (.lst [lI (openF ns), .int 0, .int 0]) v → Q v H'
theorem open_body {G : Gc} (H : Head G) {A : Around} {g : Wd} {a : Addr} {ns : List Int} (hn : ns.length ≤ 1000) (hJ : ∀ n H, g.J n H → SqL G.K H a (ns.map V.int)) : Ex (G.sg A N__law_open (defScope s__law_open)) g (defBody s__law_open) [.raw a, .no, .no, .no] 0 { nx := fun _ _ => False, rt := fun _ d => d = .lst [lI (openF ns), .int 0, .int 0] } := by
  have nd := sc__law_open.nd
  have e1 : cutD (ns.map Dat.int) none (some 12) = (ns.take 12).map Dat.int := by rw [show (12 : Int) = ((12 : Nat) : Int) from rfl, cutD_to, List.map_take]
  have e2 : cutD (ns.map Dat.int) (some 12) (some 63) = ((ns.drop 12).take 51).map Dat.int := by rw [show (12 : Int) = ((12 : Nat) : Int) from rfl, show (63 : Int) = ((63 : Nat) : Int) from rfl, cutD_mid _ _ _ (by decide), List.map_take, List.map_drop]
  refine x_cons (xd_setN nd 1 (by kernel_rfl) (by simp) (EdN.is (edn_listL (by kernel_rfl) (H.free 70) (EdN.ed (edn_sliceR hJ 0 (by kernel_rfl) rfl .none (.some ed_int)))) e1) ?_)
  refine x_cons (x_for (EdI.ev (edi_enum (by kernel_rfl) (H.free 66) (EdN.ed (EdN.is (edn_sliceR hJ 0 (by kernel_rfl) rfl (.some ed_int) (.some ed_int)) e2))) ⟨fun i n ρ => n = 0 ∧ ∃ b c, ρ = [.raw a, .own ((opGo ns i).map Dat.int), b, c], ⟨rfl, .no, .no, rfl⟩, fun i z n2 ρ2 hz ⟨en, b, c, er⟩ => ?_, fun n2 ρ2 ⟨en, b, c, er⟩ => ?_⟩))
  · subst en er
    rw [zipIdx_map', List.map_map, List.getElem?_map, List.getElem?_zipIdx, Option.map_map] at hz
    cases hq : ((ns.drop 12).take 51)[i]? with
    | none => rw [hq] at hz; cases hz
    | some v =>
      rw [hq] at hz
      have ez : z = .tup [.int (i : Nat), .int v] := by
        simp at hz
        exact hz.symm
      subst ez
      have h12 : (opGo ns i).length = 12 := by
        have := (List.getElem?_eq_some_iff.mp hq).1
        rw [List.length_take, List.length_drop] at this
        rw [opGo_len, List.length_take]
        omega
      have hm : (i : Int) % 12 = ((i % 12 : Nat) : Int) := by omega
      have hlt : i % 12 < 12 := Nat.mod_lt _ (by decide)
      have hget : ((opGo ns i).map Dat.int)[i % 12]? = some (.int ((opGo ns i).getD (i % 12) 0)) := get_map (getD_get (by omega))
      refine ⟨_, _, (gd_tup (gds_cons (gd_nm nd 2 (by kernel_rfl)) (gds_cons (gd_nm nd 3 (by kernel_rfl)) gds_nil))), x_one (x_put 1 (by kernel_rfl) rfl (ev_op (ev_peek (i := 1) rfl (Ed.ev (ed_ix (ed_nm 1 (by kernel_rfl) rfl) (ed_op (ed_int1 (by kernel_rfl) (H.free 67) (ed_nm 2 (by kernel_rfl) rfl)) ed_int (o_mod (by decide))) (show Ix _ ((i : Int) % 12) _ by rw [hm]; exact ixl_nat hget)) ⟨⟨_, rfl⟩, Ed.ev (ed_nm 3 (by kernel_rfl) rfl) ⟨_, o_add, Ed.ev (ed_op (ed_int1 (by kernel_rfl) (H.free 67) (ed_nm 2 (by kernel_rfl) rfl)) ed_int (o_mod (by decide))) ⟨_, i % 12, rfl, by rw [hm]; exact ixN_nat (by rw [List.length_map]; omega), rfl, .dat (.int (i : Nat)), .dat (.int v), ?_⟩⟩⟩))))⟩
      rw [opGo_succ hq]
      unfold opStep
      rw [map_set]
      rfl
  · subst en er
    rw [List.length_map, List.length_zipIdx, List.length_map]
    exact x_freeze (i := 1) rfl (x_one (x_ret (Ed.ev (EdN.ed (edn_lst (eda_cons (ed_nm 1 (by kernel_rfl) rfl) (eda_cons ed_int (eda_cons ed_int eda_nil))) (by simp))) rfl)))
theorem ok_open {G : Gc} (H : Head G) : HasF G "_law_open" 1 1 (OpSp G.K) := by
  obtain ⟨fd, F⟩ := H.says.def_ 37 (by kernel_rfl : fn[37]? = some ⟨("_law_open", none), "_law_open", "_law_open", defArgs s__law_open, defBody s__law_open, defScope s__law_open, [], []⟩)
  refine ⟨_, fd, ["_law_script"], H.glo 29, F.kp, F.bindsN (fun _ _ _ _ _ _ us hl => match us, hl with | [_], _ => rfl), rfl, F.ok sc__law_open (fun vs Hh Q E ⟨_, _, e, _⟩ => by rw [e]; rfl) fun cdv A outer s H0 vs Q E hr ⟨a, ns, ev, hS, hn, q⟩ => ?_⟩
  subst ev
  refine ⟨wSs (G.sg (A.deeper (envOfC "_law_open" (defScope s__law_open) s.heap.objs.size _ cdv)) N__law_open (defScope s__law_open)) (defBody s__law_open), (wSs_ok cl_def).nox, ?_⟩
  generalize A.deeper (envOfC "_law_open" (defScope s__law_open) s.heap.objs.size _ cdv) = A1
  have fin : ∀ g : Wd, (∀ b, ¬ g.W b) → g.J 0 H0 → (∀ n H, g.J n H → SqL G.K H a (ns.map V.int)) → wSs (G.sg A1 N__law_open (defScope s__law_open)) (defBody s__law_open) { nx := fun _ H' => Q .non H', rt := Q } (L2.start N__law_open [.ref a]) H0 := fun g gw gj hJ => by
    have E0 := env_start (g := g) (M := fun _ => False) (H := H0) (N := N__law_open) (ds := []) (vs := []) (k := 0) [a] (fun _ z => z.elim) Ats.nil gj (fun b w => gw b w) (by simp) (fun _ => 0)
    refine open_body H hn hJ _ _ _ _ _ _ E0 ⟨fun _ _ _ _ _ _ z => z.elim, fun n v H' d kk _ av ed => ?_, fun _ _ _ _ _ _ z => z.elim, fun _ _ _ _ _ _ z => z.elim⟩
    subst ed
    exact q v H' (fun b o e => kk b o (gw b) e) av
  rcases hS with h | h
  · exact fin (scT a (ns.map V.int)) (fun _ z => z) h fun n H h => .inl h
  · exact fin wd0 (fun _ z => z) trivial fun n H _ => .inr h
end Kb
namespace Kb
open PySem PySem.Spec PyProof.Rows L2
/-- a drawn rule is small, and of its measure's length -/
theorem b9 {x : Int} (h : -9 ≤ x ∧ x ≤ 9) (k : Nat) (hk : 4 ≤ k) : Bd k x := (show Bd 4 x by show x.natAbs < 2 ^ 4; omega).mono hk
theorem okT1 {a b : Int} (ha : Bd 64 a) (hb : Bd 64 b) : okT [(a, b)] := ⟨by simp, by simp, fun q hq => by
  rw [List.mem_singleton.mp hq]
  exact ⟨ha, hb⟩⟩
theorem rsh_ok {m : Ms} {rl : List (Int × Int)} (h : RSh m rl) : smM m ∧ rl.length = m.len ∧ okRl rl := by
  cases h with
  | @w6 st k h1 h2 h3 h4 =>
    have b : ∀ j, 4 ≤ j → Bd j (0 - (st : Int)) := fun j hj => (show Bd 4 (0 - (st : Int)) by show (0 - (st : Int)).natAbs < 2 ^ 4; omega).mono hj
    refine ⟨⟨⟨by simp; omega, fun l hl => ?_⟩, by show 1 ≤ (List.replicate k _).length; simp; omega, by show (List.replicate k _).length ≤ 3; simp; omega⟩, by show _ = (List.replicate k _).length; simp, fun q hq => ?_⟩
    · rw [List.eq_of_mem_replicate hl]
      exact okT1 (b _ (by decide)) (by decide)
    · rw [List.eq_of_mem_replicate hq]
      exact ⟨b _ (by decide), (show Bd 1 0 by decide).mono (by decide)⟩
  | @w5 st h k h1 h2 h3 h4 =>
    refine ⟨⟨⟨by simp; omega, fun l hl => ?_⟩, by show 1 ≤ (List.map _ (List.range k)).length; simp; omega, by show (List.map _ (List.range k)).length ≤ 3; simp; omega⟩, by show _ = (List.map _ (List.range k)).length; simp, fun q hq => ?_⟩
    · obtain ⟨i, _, rfl⟩ := List.mem_map.mp hl
      refine okT1 ?_ (by decide)
      refine (show Bd 4 _ from ?_).mono (by decide)
      show Int.natAbs _ < 2 ^ 4
      split <;> omega
    · obtain ⟨i, _, rfl⟩ := List.mem_map.mp hq
      refine ⟨(show Bd 1 _ from ?_).mono (by decide), (show Bd 1 0 by decide).mono (by decide)⟩
      show Int.natAbs (if decide (i ≠ h) then 1 else 0) < 2 ^ 1
      split <;> decide
  | @w01 g f ws cs h1 h2 h3 h4 h5 h6 h7 h8 =>
    have hlen : (ws.zip cs).length = ws.length := by rw [List.length_zip, h4, Nat.min_self]
    refine ⟨⟨⟨by rw [List.length_map, hlen]; omega, fun l hl => ?_⟩, by show 1 ≤ (List.map _ (ws.zip cs)).length; rw [List.length_map, hlen]; omega, by show (List.map _ (ws.zip cs)).length ≤ 3; rw [List.length_map, hlen]; omega⟩, by show _ = (List.map _ (ws.zip cs)).length; rw [List.length_map, List.length_map, hlen, List.length_range], fun q hq => ?_⟩
    · obtain ⟨p, hp, rfl⟩ := List.mem_map.mp hl
      obtain ⟨a1, a2⟩ := List.of_mem_zip (a := p.1) (b := p.2) hp
      have a3 := h5 _ a1
      refine okT1 ((show Bd 4 _ from ?_).mono (by decide)) (b9 (h6 _ a2) _ (by decide))
      show (g * p.1).natAbs < 2 ^ 4
      rcases h1 with rfl | rfl <;> omega
    · obtain ⟨i, _, rfl⟩ := List.mem_map.mp hq
      refine ⟨?_, (show Bd 1 0 by decide).mono (by decide)⟩
      have hL : ∀ w ∈ ws.take i ++ ws.drop (i + 1), Bd 4 w := fun w hw => by
        have hw2 : w ∈ ws := (List.mem_append.mp hw).elim List.mem_of_mem_take List.mem_of_mem_drop
        have := h5 _ hw2
        show w.natAbs < 2 ^ 4
        omega
      have hc : Bd 2 (f * g) := by
        show (f * g).natAbs < 2 ^ 2
        rcases h1 with rfl | rfl <;> omega
      have hl2 : (ws.take i ++ ws.drop (i + 1)).length ≤ 6 := by
        rw [List.length_append, List.length_take, List.length_drop]
        omega
      have := foldl_bd hL hc (ws.take i ++ ws.drop (i + 1)).length
      rw [List.take_length] at this
      exact this.mono (by omega)
  | @w4s cs rl h1 h2 h3 h4 h5 =>
    refine ⟨⟨⟨by rw [List.length_map]; omega, fun l hl => ?_⟩, by show 1 ≤ (List.map _ cs).length; rw [List.length_map]; omega, by show (List.map _ cs).length ≤ 3; rw [List.length_map]; omega⟩, by show _ = (List.map _ cs).length; rw [List.length_map, h4], fun q hq => ?_⟩
    · obtain ⟨c, hc, rfl⟩ := List.mem_map.mp hl
      exact okT1 (by decide) (b9 (h1 c hc) _ (by decide))
    · have := h5 q hq
      exact ⟨b9 ⟨this.1, this.2.1⟩ _ (by decide), b9 ⟨this.2.2.1, this.2.2.2⟩ _ (by decide)⟩
  | @w4m cs rl h1 h2 h3 h4 h5 =>
    refine ⟨⟨⟨by rw [List.length_map]; omega, fun l hl => ?_⟩, by show 1 ≤ (List.map _ cs).length; rw [List.length_map]; omega, by show (List.map _ cs).length ≤ 3; rw [List.length_map]; omega⟩, by show _ = (List.map _ cs).length; rw [List.length_map, h4], fun q hq => ?_⟩
    · obtain ⟨c, hc, rfl⟩ := List.mem_map.mp hl
      exact okT1 (by decide) (b9 (h1 c hc) _ (by decide))
    · have := h5 q hq
      exact ⟨b9 ⟨this.1, this.2.1⟩ _ (by decide), b9 ⟨this.2.2.1, this.2.2.2⟩ _ (by decide)⟩
  | @w23 fl st sl h1 h2 h3 h4 h5 h6 =>
    refine ⟨⟨⟨by rw [List.length_map]; omega, fun l hl => ?_⟩, by show 1 ≤ (List.map _ sl).length; rw [List.length_map]; omega, by show (List.map _ sl).length ≤ 3; rw [List.length_map]; omega⟩, by show _ = (List.map _ sl).length; rw [List.length_map, List.length_map], fun q hq => ?_⟩
    · obtain ⟨c, hc, rfl⟩ := List.mem_map.mp hl
      have hst : Bd 64 (st : Int) := (show Bd 4 (st : Int) by show (st : Int).natAbs < 2 ^ 4; omega).mono (by decide)
      rcases h1 with rfl | ⟨z, rfl, hz⟩
      · exact okT1 hst (b9 (h4 c hc) _ (by decide))
      · refine ⟨by simp, by simp, fun q hq => ?_⟩
        rcases List.mem_append.mp hq with hq | hq
        · rw [List.mem_singleton.mp hq]
          exact ⟨(show Bd 64 0 by decide), b9 (by omega) _ (by decide)⟩
        · rw [List.mem_singleton.mp hq]
          exact ⟨hst, b9 (h4 c hc) _ (by decide)⟩
    · obtain ⟨c, hc, rfl⟩ := List.mem_map.mp hq
      have := h4 c hc
      exact ⟨(show Bd 1 0 by decide).mono (by decide), b9 (by omega) _ (by decide)⟩
/-! what is told for a catalogue -/
theorem pt_bd {P : Pb} {s : Ns} (O : P.Ok s) (Z : P.Sm) (j : Nat) : Bd 2000 (P.pt s j) := by
  have hb : ∀ k, k < P.m + 1 → s.bas[k]? = some (s.bas.getD k 0) := fun k hk => getD_get (by rw [O.bl]; exact hk)
  unfold Pb.pt
  by_cases h : ∃ k, k < P.m + 1 ∧ s.bas.getD k 0 = j
  · obtain ⟨k, hk, e⟩ := h
    rw [sm_one hk fun i hi hne => if_neg fun z => hne (O.nd (hb i hi) (by rw [z, ← e]; exact hb k hk)), if_pos e]
    exact T_bd2 O Z k (by omega)
  · rw [sm_none fun k hk => if_neg fun z => h ⟨k, hk, z⟩]
    exact (show Bd 1 0 by decide).mono (by decide)
theorem pts_bd {P : Pb} {s : Ns} (O : P.Ok s) (Z : P.Sm) (n : Nat) : ∀ x ∈ ptsF n P s, Bd 20000 x := fun x hx => by
  obtain ⟨k, _, rfl⟩ := List.mem_map.mp hx
  exact (bd_sub (pt_bd O Z k) (pt_bd O Z (n + k))).mono (by decide)
theorem wts_bd {P : Pb} {s : Ns} (O : P.Ok s) (Z : P.Sm) : ∀ x ∈ wtsF P s, Bd 20000 x := fun x hx => by
  obtain ⟨k, hk, rfl⟩ := List.mem_map.mp hx
  have := List.mem_range.mp hk
  exact (T_bd2 O Z _ (by omega)).mono (by decide)
structure Told (m : Ms) (cat : List Jb) (k : Nat) (e : Ns) : Prop where
  os : okS m.len (sights m cat)
  few : (sights m cat).length ≤ 20
  pth : (stP m.len (sights m cat)).Pth k (stP m.len (sights m cat)).s0 e
theorem told_ex {m : Ms} {cat : List Jb} (ho : m.Ok) (hc : okCat m cat) : ∃ k e, Told m cat k e := by
  obtain ⟨k, e, h⟩ := way (ok_s0 (stP m.len (sights m cat))) (first_s0 _)
  refine ⟨k, e, sights_ok ho hc, ?_, h⟩
  unfold sights
  rw [List.length_map]
  have := dmF_len (m := m) hc.1
  omega
section
variable {m : Ms} {cat : List Jb} {k : Nat} {e : Ns}
theorem Told.ks (h : Told m cat k e) : ∀ s ∈ sights m cat, s.1.k < m.len ∧ s.2.k < m.len := fun s hs => ⟨(h.os.2 s hs).1.k, (h.os.2 s hs).2.k⟩
theorem Told.z (h : Told m cat k e) (h3 : m.len ≤ 3) : (stP m.len (sights m cat)).Sm := (rs_ok h.os h3 h.few).sm
/-- a rule is told -/
theorem Told.sol (h : Told m cat k e) (ho : m.Ok) (hc : okCat m cat) (h3 : m.len ≤ 3) (S : (stP m.len (sights m cat)).Sol e) : (toldF m.len (sights m cat) e).length = m.len ∧ okRl (toldF m.len (sights m cat) e) ∧ fitsF (toldF m.len (sights m cat) e) (sights m cat) = true ∧ ringOf (demandsF m cat) cat.length = none := by
  have O := (Pth.end_ h.pth).1
  have f := sol_fits h.ks O S
  refine ⟨(evens_at m.len _ (by simp [ptsF])).1, fun q hq => ?_, f, ?_⟩
  · have := evens_mem _ q hq
    exact ⟨pts_bd O (h.z h3) _ _ this.1, pts_bd O (h.z h3) _ _ this.2⟩
  · cases hr : ringOf (demandsF m cat) cat.length with
    | none => rfl
    | some rg => exact (fits_no h.ks f (ring_LQ ho hc hr)).elim
/-- a quarrel -/
theorem Told.ter (h : Told m cat k e) (F : (stP m.len (sights m cat)).First e) : LQ m.len (sights m cat) (wtsF (stP m.len (sights m cat)) e) := ter_LQ h.ks (Pth.end_ h.pth).1 F (Pth.end_ h.pth).2.1
theorem right_fits {rl : List (Int × Int)} (hR : RSh m rl) (ho : m.Ok) (hc : okCat m cat) : fitsF rl (sights m cat) = true := by
  unfold fitsF
  rw [List.all_eq_true]
  intro s hs
  obtain ⟨q, hq, rfl⟩ := List.mem_map.mp hs
  exact decide_eq_true (right_dm hR ho hc hq)
theorem told_ranks {rl : List (Int × Int)} (f : fitsF rl (sights m cat) = true) : ∀ q ∈ demandsF m cat, keyF rl (jb cat q.1) + 1 ≤ keyF rl (jb cat q.2.1) := fun q hq =>
  of_decide_eq_true (List.all_eq_true.mp f (jb cat q.1, jb cat q.2.1) (List.mem_map.mpr ⟨q, hq, rfl⟩))
end
end Kb
namespace Kb
open PySem PySem.Spec PyProof.Rows L2
abbrev N_law : List Str := ["_law_script", "_law_pen", "_law_turn", "_law_measure", "_law_rule", "_law_kinds", "_law_catalogue", "_law_due", "_law_sights", "_law_told", "_law_ring", "_law_quarrel", "_law_pairs", "_law_value_here", "_law_i", "_law_j", "_law_start", "_law_one"]
theorem sc_law : FnScope N_law ["_law_script"] (defScope s_law) := ⟨rfl, rfl, rfl, by decide +kernel, rfl, by decide +kernel, by decide +kernel⟩
def roD : Option (List (Int × Int)) → Dat
  | none => .non
  | some rl => .tup (rl.map pI)
theorem ms_ent (m : Ms) : ∃ x xs, Ix m.enc 1 x ∧ seqD x xs ∧ xs.length = m.len := by
  cases m with
  | sum es => exact ⟨_, _, .tup rfl, rfl, by simp [Ms.len]⟩
  | max es => exact ⟨_, _, .tup rfl, rfl, by simp [Ms.len]⟩
  | late ws => exact ⟨_, _, .tup rfl, rfl, by simp [Ms.len]⟩
theorem dms_P2 (m : Ms) (cat : List Jb) (h : (demandsF m cat).length ≤ 1000) : P2 (.lst ((demandsF m cat).map dE)) := by
  refine .lst _ (fun x hx => ?_) (by rw [List.length_map]; exact h)
  obtain ⟨q, _, rfl⟩ := List.mem_map.mp hx
  refine .tup _ (fun y hy => ?_) (by show 3 ≤ 1000; decide)
  simp only [List.mem_cons, List.not_mem_nil, or_false] at hy
  rcases hy with rfl | rfl | rfl
  · exact .int _
  · exact .int _
  · exact .int _
theorem inRg_int (rg : List Dm) (q : Dm) : decide ((((q.1 : Nat) : Int), ((q.2.1 : Nat) : Int)) ∈ rg.map fun r => (((r.1 : Nat) : Int), ((r.2.1 : Nat) : Int))) = inRg rg q := by
  unfold inRg
  rw [decide_eq_decide, List.mem_map, List.mem_map]
  constructor
  · rintro ⟨r, hr, e⟩
    have e1 := (Prod.mk.inj e).1
    have e2 := (Prod.mk.inj e).2
    exact ⟨r, hr, Prod.ext (by omega) (by omega)⟩
  · rintro ⟨r, hr, e⟩
    have e1 : r.1 = q.1 := (Prod.mk.inj e).1
    have e2 : r.2.1 = q.2.1 := (Prod.mk.inj e).2
    exact ⟨r, hr, by rw [e1, e2]⟩
theorem indF_bd (m : Ms) (cat : List Jb) (rg : List Dm) : ∀ x ∈ indF m cat rg, Bd 20000 x := fun x hx => by
  obtain ⟨q, _, rfl⟩ := List.mem_map.mp hx
  refine (show Bd 1 _ from ?_).mono (by decide)
  cases inRg rg q <;> decide
theorem law_body {G : Gc} (H : Head G) {A : Around} (hr : Room 7 A) (p c : Addr) : Ex (G.sg A N_law (defScope s_law)) (penW p c) ((defBody s_law).drop 1) (.no :: .raw p :: List.replicate 16 .no) 0 { nx := fun _ _ => False, rt := fun _ d => d = .bl true } := by
  have nd := sc_law.nd
  refine x_cons (x_for (EdI.ev (edi_rng1 (by kernel_rfl) (H.free 73) ed_int (by decide) (by decide)) ⟨fun i n ρ => n ≤ 84 * i ∧ ∃ l : List Sl, l.length = 16 ∧ ρ = .no :: .raw p :: l, ⟨by omega, _, rfl, rfl⟩, fun i z n2 ρ2 hz ⟨hn, l, hl, er⟩ => ?_, fun n2 ρ2 ⟨hn, l, hl, er⟩ => x_one (x_ret (Ed.ev ed_bl rfl))⟩))
  subst er
  obtain ⟨hi, _⟩ := rgD_at hz
  have hi2 : i < 2 := hi
  clear hz hi
  match l, hl with
  | [a2, a3, a4, a5, a6, a7, a8, a9, a10, a11, a12, a13, a14, a15, a16, a17], _ =>
  refine ⟨_, _, gd_nm nd 2 (by kernel_rfl), ?_⟩
  -- the measure
  refine x_cons (x_par2 nd 3 4 ⟨rfl, rfl⟩ ⟨rfl, rfl⟩ (by decide) (by simp) (by kernel_rfl) (era_dat (ev_pcall (ok__law_draw_measure H) (hr.mono (by decide)) (by kernel_rfl) (i := 1) (by kernel_rfl) rfl (EdA.ev (eda_cons ed_int (eda_cons ed_int (eda_cons (EdN.ed (edn_lst (eda_cons ed_str (eda_cons ed_str (eda_cons ed_str (eda_cons ed_str (eda_cons ed_str eda_nil))))))) eda_nil))) ⟨rfl, rfl, by omega, fun d ⟨m0, ed, hm0⟩ => era_dat (Ed.ev ed_non (era_nil ⟨rfl, ?_⟩))⟩))))
  subst ed
  refine x_consI (fun n' ρ' => n' ≤ 84 * i + 54 ∧ ∃ m ro, smM m ∧ (∀ rl, ro = some rl → RSh m rl) ∧ ρ' = [.no, .raw p, .dat z, .dat m.enc, .dat (roD ro), a5, a6, a7, a8, a9, a10, a11, a12, a13, a14, a15, a16, a17]) (x_if (et_cmp (ev_take (i := 1) H (hr.mono (by decide)) (by kernel_rfl) (by kernel_rfl) rfl (Ed.ev ed_int ⟨3, rfl, by decide, by decide, by omega, fun r hr3 => Ed.ev ed_int ⟨_, o_eq, fun h => ?_, fun h => x_nil ⟨by omega, m0, none, hm0, (fun rl e => by cases e), rfl⟩⟩⟩)))) fun n' ρ' ⟨hn', m, ro, hm, hro, er⟩ => ?_
  · refine x_one (x_asg (is := [3] ++ ([4] ++ [])) (ev_pcall (ok__law_draw_right H) (hr.mono (by decide)) (by kernel_rfl) (i := 1) (by kernel_rfl) rfl (EdA.ev (eda_cons ed_int eda_nil) ⟨rfl, rfl, by omega, fun d ⟨m', rl, ed, hR⟩ => ?_⟩)) (by intro _; rfl) (fun env he => by rw [swapped_of he]; kernel_rfl))
    subst ed
    exact ⟨_, (gd_tup (gds_cons (gd_nm nd 3 (by kernel_rfl)) (gds_cons (gd_nm nd 4 (by kernel_rfl)) gds_nil))), by omega, m', some rl, (rsh_ok hR).1, fun rl' e => by cases e; exact hR, rfl⟩
  subst er
  obtain ⟨ho, hm1, hm3⟩ := hm
  obtain ⟨ex, exs, hix, hseq, hlen⟩ := ms_ent m
  refine x_cons (xd_set nd 5 (by kernel_rfl) (ed_len (xs := exs) (by kernel_rfl) (H.free 69) (ed_ix (ed_nm 3 (by kernel_rfl) rfl) ed_int hix) hseq) ?_)
  rw [hlen]
  refine x_cons (x_set nd 6 (by kernel_rfl) (ev_pcall (ok__law_draw_catalogue H) (hr.mono (by decide)) (by kernel_rfl) (i := 1) (by kernel_rfl) rfl (EdA.ev (eda_cons (ed_nm 5 (by kernel_rfl) rfl) (eda_cons ed_int eda_nil)) ⟨rfl, ⟨m.len, rfl, hm1, by omega⟩, by omega, fun d ⟨K', cat, e1, e2, h1, h4, hj⟩ => ?_⟩)))
  subst e2
  have eK : K' = m.len := by
    have := (List.cons.inj e1).1
    injection this with z
    omega
  subst eK
  have hc : okCat m cat := ⟨h4, fun x hx => (hj x hx).ok⟩
  have hdl := dmF_len (m := m) h4
  refine x_cons (xd_set nd 7 (by kernel_rfl) (ed_call (ok_demands H) (hr.mono (by decide)) (by kernel_rfl) (eda_cons (ed_nm 3 (by kernel_rfl) rfl) (eda_cons (ed_nm 6 (by kernel_rfl) rfl) eda_nil)) ⟨m, cat, rfl, ho, hc, rfl⟩) ?_)
  refine x_cons (xd_if (b := !true) (etd_not (etd_val (ed_call (ok_same3 H) (hr.mono (by decide)) (by kernel_rfl) (eda_cons (ed_nm 7 (by kernel_rfl) rfl) (eda_cons (ed_call (ok__law_wanted H) (hr.mono (by decide)) (by kernel_rfl) (eda_cons (ed_nm 3 (by kernel_rfl) rfl) (eda_cons (ed_nm 6 (by kernel_rfl) rfl) eda_nil)) ⟨m, cat, rfl, ho, hc, rfl⟩) eda_nil)) ⟨.lst ((demandsF m cat).map dE), dms_P2 m cat (by omega), rfl, rfl⟩))) (fun h => by cases h) fun _ => x_nil ?_)
  refine x_cons (xd_set (d := .tup ((sights m cat).map sE)) nd 8 (by kernel_rfl) (ed_tupleL (by kernel_rfl) (H.free 78) (EdN.ed (EdN.is (edn_lcm nd [("_law_i", 14), ("_law_j", 15), ("_law_start", 16)] (by kernel_rfl) (ys := demandsF m cat) (enc := dE) (f := fun q => sE (jb cat q.1, jb cat q.2.1)) (edi_lst (ed_nm 7 (by kernel_rfl) rfl)) (by omega) (fun q hq => ?_)) (by unfold sights; rw [List.map_map]; rfl)))) ?_)
  · have hq2 := dm_mem hq
    exact ⟨_, _, (by simp), (gd_tup (gds_cons (gd_nm nd 14 (by kernel_rfl)) (gds_cons (gd_nm nd 15 (by kernel_rfl)) (gds_cons (gd_nm nd 16 (by kernel_rfl)) gds_nil)))), (ed_tup (eda_cons (ed_ix (ed_nm 6 (by kernel_rfl) rfl) (ed_nm 14 (by kernel_rfl) rfl) (ixt_nat (get_map (getD_get hq2.1)))) (eda_cons (ed_ix (ed_nm 6 (by kernel_rfl) rfl) (ed_nm 15 (by kernel_rfl) rfl) (ixt_nat (get_map (getD_get hq2.2.1)))) (eda_cons ed_bl eda_nil))) (by simp))⟩
  obtain ⟨kk, e, tl⟩ := told_ex ho hc
  have hfew := tl.few
  -- what the three calls give
  obtain ⟨dt, dq, hft, hfq, hcase⟩ : ∃ dt dq, R_find_fitting [nI m.len, .tup ((sights m cat).map sE)] dt ∧ R_find_quarrel [nI m.len, .tup ((sights m cat).map sE)] dq ∧ (((stP m.len (sights m cat)).Sol e ∧ dt = .tup ((toldF m.len (sights m cat) e).map pI)) ∨ ((stP m.len (sights m cat)).First e ∧ dt = .non ∧ dq = tI (wtsF (stP m.len (sights m cat)) e))) := by
    rcases (Pth.end_ tl.pth).2.2 with F | S
    · exact ⟨_, _, ⟨m.len, _, kk, e, rfl, tl.os, hm1, hm3, hfew, tl.pth, .inr ⟨F, rfl⟩⟩, ⟨m.len, _, kk, e, rfl, tl.os, hm1, hm3, hfew, tl.pth, .inr ⟨F, rfl⟩⟩, .inr ⟨F, rfl, rfl⟩⟩
    · exact ⟨_, _, ⟨m.len, _, kk, e, rfl, tl.os, hm1, hm3, hfew, tl.pth, .inl ⟨S, rfl⟩⟩, ⟨m.len, _, kk, e, rfl, tl.os, hm1, hm3, hfew, tl.pth, .inl ⟨S, rfl⟩⟩, .inl ⟨S, rfl⟩⟩
  refine x_cons (x_par3 nd 9 10 11 ⟨rfl, rfl⟩ ⟨rfl, rfl⟩ ⟨rfl, rfl⟩ (by decide) (by simp) (by kernel_rfl) (era_dat (Ed.ev (d := dt) (ed_call (ok_find_fitting H) (hr.mono (by decide)) (by kernel_rfl) (eda_cons (ed_nm 5 (by kernel_rfl) rfl) (eda_cons (ed_nm 8 (by kernel_rfl) rfl) eda_nil)) hft) (era_dat (Ed.ev (d := ringD (ringOf (demandsF m cat) cat.length)) (ed_call (ok_find_ring H) (hr.mono (by decide)) (by kernel_rfl) (eda_cons (ed_nm 3 (by kernel_rfl) rfl) (eda_cons (ed_nm 6 (by kernel_rfl) rfl) eda_nil)) ⟨m, cat, rfl, ho, hc, rfl⟩) (era_dat (Ed.ev (d := dq) (ed_call (ok_find_quarrel H) (hr.mono (by decide)) (by kernel_rfl) (eda_cons (ed_nm 5 (by kernel_rfl) rfl) (eda_cons (ed_nm 8 (by kernel_rfl) rfl) eda_nil)) hfq) (era_nil ⟨rfl, ?_⟩))))))))
  refine x_consI (fun n'' ρ' => n'' ≤ 84 * (i + 1) ∧ ρ' = [.no, .raw p, .dat z, .dat m.enc, .dat (roD ro), .dat (.int (m.len : Nat)), .dat (.tup (cat.map Jb.enc)), .dat (.lst ((demandsF m cat).map dE)), .dat (.tup ((sights m cat).map sE)), .dat dt, .dat (ringD (ringOf (demandsF m cat) cat.length)), .dat dq, a12, a13, a14, a15, a16, a17]) ?_ fun n'' ρ' ⟨hn'', er⟩ => ?_
  · cases hro2 : ro with
    | none => exact xd_if (b := !isN (roD none) && false) (etd_w (ewd_and (etd_cmp (ed_nm 4 (by kernel_rfl) rfl) ed_non o_notN) (fun h => by cases h))) (fun h => by cases h) fun _ => x_nil ⟨by omega, rfl⟩
    | some rl =>
      have hR := hro rl hro2
      obtain ⟨_, hrl, hok⟩ := rsh_ok hR
      have hf := right_fits hR ho hc
      rcases hcase with ⟨S, rfl⟩ | ⟨F, _, _⟩
      · exact xd_if (b := !isN (roD (some rl)) && (isN (.tup ((toldF m.len (sights m cat) e).map pI)) || !true)) (etd_w (ewd_and (etd_cmp (ed_nm 4 (by kernel_rfl) rfl) ed_non o_notN) (fun h => (ewd_and1 (etd_w (ewd_or (etd_cmp (ed_nm 9 (by kernel_rfl) rfl) ed_non o_isN) (fun h => (ewd_or1 (etd_not (etd_val (ed_call (ok_same3 H) (hr.mono (by decide)) (by kernel_rfl) (eda_cons (ed_call (ok_fits H) (hr.mono (by decide)) (by kernel_rfl) (eda_cons (ed_nm 4 (by kernel_rfl) rfl) (eda_cons (ed_nm 8 (by kernel_rfl) rfl) eda_nil)) ⟨rl, sights m cat, rfl, by rw [hrl]; exact tl.os, hok, by rw [hf]⟩) (eda_cons ed_bl eda_nil)) ⟨.bl true, .bl true, rfl, rfl⟩))))))))))) (fun h => by cases h) fun _ => x_nil ⟨by omega, rfl⟩
      · exact (fits_no tl.ks hf (tl.ter F)).elim
  subst er
  refine x_consI (fun n3 ρ' => n3 ≤ 84 * (i + 1) ∧ ρ' = [.no, .raw p, .dat z, .dat m.enc, .dat (roD ro), .dat (.int (m.len : Nat)), .dat (.tup (cat.map Jb.enc)), .dat (.lst ((demandsF m cat).map dE)), .dat (.tup ((sights m cat).map sE)), .dat dt, .dat (ringD (ringOf (demandsF m cat) cat.length)), .dat dq, a12, a13, a14, a15, a16, a17]) ?_ fun n3 ρ' ⟨hn3, er⟩ => ?_
  · rcases hcase with ⟨S, rfl⟩ | ⟨F, rfl, rfl⟩
    · obtain ⟨hl1, hl2, hl3, hl4⟩ := tl.sol ho hc hm3 S
      obtain ⟨fo, hfo⟩ := fo_ex (toldF m.len (sights m cat) e) cat
      obtain ⟨fo1, fo2⟩ := fo_ranks (m := m) hfo (told_ranks hl3)
      refine xd_if (b := isN (.tup ((toldF m.len (sights m cat) e).map pI))) (etd_cmp (ed_nm 9 (by kernel_rfl) rfl) ed_non o_isN) (fun h => by cases h) fun _ => ?_
      refine x_one (xd_if (b := !isN (ringD (ringOf (demandsF m cat) cat.length)) || (!true || !true)) (etd_w (ewd_or (etd_cmp (ed_nm 10 (by kernel_rfl) rfl) ed_non o_notN) (fun h => (ewd_or (etd_not (etd_val (ed_call (ok__law_is_rule H) (hr.mono (by decide)) (by kernel_rfl) (eda_cons (ed_nm 5 (by kernel_rfl) rfl) (eda_cons (ed_nm 9 (by kernel_rfl) rfl) eda_nil)) ⟨toldF m.len (sights m cat) e, by rw [hl1], rfl⟩))) (fun h => (ewd_or1 (etd_not (etd_val (ed_call (ok__law_fits H) (hr.mono (by decide)) (by kernel_rfl) (eda_cons (ed_nm 9 (by kernel_rfl) rfl) (eda_cons (ed_nm 8 (by kernel_rfl) rfl) eda_nil)) ⟨_, sights m cat, rfl, by rw [hl1]; exact tl.os, hl2, by rw [hl3]⟩))))))))) (fun h => by rw [hl4] at h; cases h) fun _ => ?_)
      refine x_one (xd_if (b := !true) (etd_not (etd_val (ed_call (ok__law_ranks H) (hr.mono (by decide)) (by kernel_rfl) (eda_cons (ed_nm 3 (by kernel_rfl) rfl) (eda_cons (ed_nm 6 (by kernel_rfl) rfl) (eda_cons (ed_call (ok_first_order H) (hr.mono (by decide)) (by kernel_rfl) (eda_cons (ed_nm 9 (by kernel_rfl) rfl) (eda_cons (ed_nm 6 (by kernel_rfl) rfl) eda_nil)) ⟨_, cat, fo, rfl, hl2, h4, fun x hx => by rw [hl1]; exact hc.2 x hx, hfo, rfl⟩) eda_nil))) ⟨m, cat, fo.map (·.2), rfl, ho, hc, fo1, fo2, rfl⟩))) (fun h => by cases h) fun _ => x_nil ⟨hn'', rfl⟩)
    · refine xd_if (b := isN .non) (etd_cmp (ed_nm 9 (by kernel_rfl) rfl) ed_non o_isN) (fun _ => ?_) fun h => by cases h
      exact x_one (xd_if (b := !true) (etd_not (etd_val (ed_call (ok__law_is_quarrel H) (hr.mono (by decide)) (by kernel_rfl) (eda_cons (ed_nm 5 (by kernel_rfl) rfl) (eda_cons (ed_nm 8 (by kernel_rfl) rfl) (eda_cons (ed_nm 11 (by kernel_rfl) rfl) eda_nil))) ⟨m.len, sights m cat, _, rfl, tl.os, by omega, wts_bd (Pth.end_ tl.pth).1 (tl.z hm3), tl.ter F, rfl⟩))) (fun h => by cases h) fun _ => x_nil ⟨hn'', rfl⟩)
  subst er
  cases hrg : ringOf (demandsF m cat) cat.length with
  | none => exact x_one (xd_if (b := !isN (ringD none)) (etd_cmp (ed_nm 10 (by kernel_rfl) rfl) ed_non o_notN) (fun h => by cases h) fun _ => x_nil ⟨hn3, _, rfl, rfl⟩)
  | some rg =>
    have hgo := ring_ok ho hc hrg
    have hlq := ring_LQ ho hc hrg
    refine x_one (xd_if (b := !isN (ringD (some rg))) (etd_cmp (ed_nm 10 (by kernel_rfl) rfl) ed_non o_notN) (fun _ => ?_) fun h => by cases h)
    refine x_cons (xd_if (b := !true) (etd_not (etd_val (ed_call (ok__law_is_ring H) (hr.mono (by decide)) (by kernel_rfl) (eda_cons (ed_nm 3 (by kernel_rfl) rfl) (eda_cons (ed_nm 6 (by kernel_rfl) rfl) (eda_cons (ed_nm 10 (by kernel_rfl) rfl) eda_nil))) ⟨m, cat, rg, rfl, ho, hc, hgo, rfl⟩))) (fun h => by cases h) fun _ => x_nil ?_)
    refine x_cons (xd_setNc nd 12 (by kernel_rfl) (by simp) (edn_lcm nd [("_law_one", 17)] (by kernel_rfl) (ys := rg) (enc := dE) (f := fun r => pI (((r.1 : Nat) : Int), ((r.2.1 : Nat) : Int))) (edi_tup (ed_nm 10 (by kernel_rfl) rfl)) (by have := hgo.few; omega) (fun y hy => ⟨_, _, (by simp), (gd_nm nd 17 (by kernel_rfl)), Ed.is (ed_sliceT (ed_nm 17 (by kernel_rfl) rfl) .none (.some ed_int)) rfl⟩)) (by kernel_rfl) ?_)
    refine x_freeze (i := 12) rfl ?_
    have eP : Dat.lst (rg.map fun r => pI (((r.1 : Nat) : Int), ((r.2.1 : Nat) : Int))) = lP (rg.map fun r => (((r.1 : Nat) : Int), ((r.2.1 : Nat) : Int))) := by
      unfold lP
      rw [List.map_map]
      rfl
    rw [eP]
    refine x_cons (xd_set (d := tI (indF m cat rg)) nd 13 (by kernel_rfl) (ed_tupleL (by kernel_rfl) (H.free 78) (EdN.ed (EdN.is (edn_lcm nd [("_law_i", 14), ("_law_j", 15), ("_law_start", 16)] (by kernel_rfl) (ys := demandsF m cat) (enc := dE) (f := fun q => .int (if inRg rg q then 1 else 0)) (edi_lst (ed_nm 7 (by kernel_rfl) rfl)) (by omega) (fun q hq => ⟨_, _, (by simp), (gd_tup (gds_cons (gd_nm nd 14 (by kernel_rfl)) (gds_cons (gd_nm nd 15 (by kernel_rfl)) (gds_cons (gd_nm nd 16 (by kernel_rfl)) gds_nil)))), (ed_intB (by kernel_rfl) (H.free 67) (Ed.is (ed_cmp (x := pI (((q.1 : Nat) : Int), ((q.2.1 : Nat) : Int))) (ed_tup (eda_cons (ed_nm 14 (by kernel_rfl) rfl) (eda_cons (ed_nm 15 (by kernel_rfl) rfl) eda_nil)) (by simp)) (ed_nm 12 (by kernel_rfl) rfl) (o_inP hr)) (by rw [inRg_int])))⟩)) (by unfold indF; rw [List.map_map]; refine List.map_congr_left fun q _ => ?_; show Dat.int _ = Dat.int (b2i (inRg rg q)); cases inRg rg q <;> rfl)))) ?_)
    refine x_one (xd_if (b := !true || !true) (etd_w (ewd_or (etd_not (etd_val (ed_call (ok__law_is_quarrel H) (hr.mono (by decide)) (by kernel_rfl) (eda_cons (ed_nm 5 (by kernel_rfl) rfl) (eda_cons (ed_nm 8 (by kernel_rfl) rfl) (eda_cons (ed_nm 13 (by kernel_rfl) rfl) eda_nil))) ⟨m.len, sights m cat, _, rfl, tl.os, by omega, indF_bd m cat rg, hlq, rfl⟩))) (fun h => (ewd_or1 (etd_not (etd_val (ed_call (ok_same3 H) (hr.mono (by decide)) (by kernel_rfl) (eda_cons (ed_call (ok_is_quarrel H) (hr.mono (by decide)) (by kernel_rfl) (eda_cons (ed_nm 5 (by kernel_rfl) rfl) (eda_cons (ed_nm 8 (by kernel_rfl) rfl) (eda_cons (ed_nm 13 (by kernel_rfl) rfl) eda_nil))) ⟨m.len, sights m cat, _, rfl, tl.os, by omega, hlq.len, indF_bd m cat rg, rfl⟩) (eda_cons ed_bl eda_nil)) ⟨.bl true, .bl true, by rw [isQF_of tl.ks hlq], rfl⟩))))))) (fun h => by cases h) fun _ => x_nil ⟨hn3, _, rfl, rfl⟩)
end Kb
namespace Kb
open PySem PySem.Spec PyProof.Rows L2
theorem wE_call {S : Sg} {k np : Nat} {sp : Sp} {f : Str} {e : Expr} {es : List Expr} {p pos : Pos} {σ : L2.St} {H : Hp} {Q : VK} (F : HasF S.gc f k np sp) (hr : Room k S.A) (hg : glB S.sc f = true) (h : tCall sp [] E0 (wA S (e :: es)) σ H Q)
    (he : ∀ env, starEach (e :: es) env = (false, eval e env) :: starEach es env := by intro _; rfl) (hpl : ∀ env, (backTo pos (starEach es env)).any (·.1) = false := by intro _; rfl) : wE S (.Call (.Name f p) (e :: es) [] pos) σ H Q := by
  obtain ⟨fa, fd, ps, h1, h2, h3, h4, h5⟩ := F
  refine ⟨_, fun X c => ?_, h⟩
  have F' : FnOk X.prog X.w X.K X.mg X.base CX0 k fa fd ps sp := by rw [c.P, c.w, c.K, c.mg, c.base]; exact h5
  exact pe_call F' (by rw [c.A]; exact hr) (gl_of c hg) (by rw [c.mg]; exact h1) (by rw [c.K]; exact h2) (by rw [c.K]; exact h3) .nil pass0 (wA_ok c) (glB_ok hg).2 (he _) (hpl _)
theorem wS_asg {S : Sg} {x : Str} {px pos : Pos} {e : Expr} {D' : Ends} {σ : L2.St} {H : Hp} (nd : S.N.Nodup) (i : Nat) (hst : stB S i x = true) (h : tAsg (wE S e) (gName i) D' σ H) (hs : ∀ env, swapsWith e (some (.Name x px)) pos.line env = pure false := by intro _; rfl) : wS S (.Assign [.Name x px] e pos) D' σ H := by
  obtain ⟨h1, h2, h3⟩ := stB_ok hst
  exact ⟨tAsg (wE S e) (gName i), fun X c => ps_set (by rw [c.N]; exact nd) (by rw [c.N]; exact h1) (by rw [c.sc]; exact h2) (wE_ok c) (hs _) (by rw [c.fn, c.sc]; exact h3), h⟩
theorem openF_len (ns : List Int) : (openF ns).length ≤ 12 := by
  unfold openF
  rw [opGo_len, List.length_take]
  omega
def LawSp (K : PySem.W.Frag) : Sp := fun vs H Q _ => ∃ (a : Addr) (ns : List Int), vs = [.ref a] ∧ SqL K H a (ns.map V.int) ∧ ns.length ≤ 63 ∧ ∀ H', Q (.bl true) H'
theorem law_run {G : Gc} (H : Head G) {A : Around} (hr : Room 7 A) {vs : List V} {H0 : Hp} {Q : VK} {E : XK} (h : LawSp G.K vs H0 Q E) : wSs (G.sg A N_law (defScope s_law)) (defBody s_law) { nx := fun _ H' => Q .non H', rt := Q } (L2.start N_law vs) H0 := by
  have nd := sc_law.nd
  obtain ⟨a, ns, rfl, hS, hn, q⟩ := h
  refine ws_cons (wS_asg nd 1 (by kernel_rfl) ?_)
  refine wE_call (S := G.sg A N_law (defScope s_law)) (ok_open H) (hr.mono (by decide)) (by kernel_rfl) ?_
  refine ⟨tCons (tVar 0) tNil, fun X c => pa_cons (pe_nm c (by kernel_rfl)) pa_nil, .ref a, rfl, ?_⟩
  refine ⟨a, ns, rfl, hS, by omega, fun v H' s av => ?_⟩
  obtain ⟨p, us, rfl, _, hp, hs⟩ := at_lst av
  obtain ⟨u1, u2, u3, rfl, b1, b2, b3⟩ := ats3 hs
  obtain ⟨c, cs, rfl, _, hc, hcs⟩ := at_lst b1
  have e2 := at_int b2
  have e3 := at_int b3
  subst e2 e3
  have ecs := hcs.ints
  subst ecs
  have hne : p ≠ c := fun e => by
    rw [e, hc] at hp
    have := HO.lst.inj (Option.some.inj hp)
    cases hL : openF ns with
    | nil => rw [hL] at this; cases this
    | cons x l => rw [hL] at this; cases this
  have hpen : PenOk p c 0 H' := ⟨hne, 0, 0, openF ns, hp, hc, Nat.le_refl 0, openF_len ns⟩
  have E' : EnvOk (penW p c) (fun b => b = p) H' (fun _ => 0) 0 ((L2.start N_law [.ref a]).set 1 (some (.ref p))) H' (.no :: .raw p :: List.replicate 16 .no) := by
    refine ⟨Kw.refl H', hpen, fun b z => z, (fun b z => by cases z; exact ⟨_, hp⟩), rfl, fun i d e => ?_, fun i ds e => ?_, fun i b e => ?_, fun i j ds es e => ?_⟩
    · have := List.mem_of_getElem? e
      simp at this
    · have := List.mem_of_getElem? e
      simp at this
    · match i, e with
      | 0, e => cases e
      | 1, e => cases e; rfl
      | i + 2, e =>
        have : Sl.raw b ∈ List.replicate 16 Sl.no := List.mem_of_getElem? e
        simp at this
    · have := List.mem_of_getElem? e
      simp at this
  refine law_body H hr p c _ _ _ _ _ _ E' ⟨fun _ _ _ _ _ _ z => z.elim, fun n v H' d _ _ av ed => ?_, fun _ _ _ _ _ _ z => z.elim, fun _ _ _ _ _ _ z => z.elim⟩
  subst ed
  rw [at_bl av]
  exact q H'
theorem ok_law {G : Gc} (H : Head G) {f : Addr} {fd : FuncData} (F : FunD G.K "law" "law" (defArgs s_law) (defBody s_law) (defScope s_law) [] [] f fd) : FnOk G.P G.w G.K G.mg G.base CX0 8 f fd ["_law_script"] (LawSp G.K) := by
  refine F.ok sc_law (fun vs Hh Q E ⟨_, _, e, _⟩ => by rw [e]; rfl) fun cdv A outer s H0 vs Q E hr hsp => ?_
  refine ⟨wSs (G.sg (A.deeper (envOfC "law" (defScope s_law) s.heap.objs.size f cdv)) N_law (defScope s_law)) (defBody s_law), (wSs_ok cl_def).nox, ?_⟩
  exact law_run H hr hsp
theorem law_facts {P : Program} {w : World} {K : PySem.W.Frag} {h : Heap} {mg : Str → Option Value} {f : Addr} (X : K.In h) (Gm : h.Ns mainGlobals mg) (hfa : mg ("law" : Str) = some (.ref f)) (cc : He.SaysD fa fn K) :
    ∃ fd : FuncData, (∀ (s : Shared) (v : Value), BindsTo s fd ⟨[v], []⟩ [("_law_script", v)]) ∧ ∀ base : Heap, K.In base → base.Ns mainGlobals mg → FnOk P w K mg base CX0 8 f fd ["_law_script"] (LawSp K) := by
  obtain ⟨fd, F⟩ := cc.def_ 70 (by kernel_rfl : fn[70]? = some ⟨("law", none), "law", "law", defArgs s_law, defBody s_law, defScope s_law, [], []⟩)
  have e := hfa.symm.trans (He.glo_ok X Gm (cc.fact 62 (f := .glo "law") (by kernel_rfl)))
  cases e
  have b := FunD.bindsA (ps := ["_law_script"]) F fun _ _ _ _ _ _ us hl => match us, hl with | [_], _ => rfl
  refine ⟨fd, fun s v => b s [v] rfl, fun base _ _ => ?_⟩
  exact ok_law (G := ⟨P, w, K, mg, base⟩) ⟨⟨h, X, Gm⟩, cc⟩ F
end Kb
open PySem PySem.W PySem.Calls PyProof.Rows
set_option maxHeartbeats 0 in
theorem PySem.Challenge.cw_keybench_k69_whole_keys_told_back_from_d_holds : PySem.Challenge.rw_keybench_k69_whole_keys_told_back_from_d.Holds := by
  w_on; o_law
  refine HandSHeadRun.head_any (r := OpenLaw.row PySem.Challenge.rw_keybench_k69_whole_keys_told_back_from_d) (q := view (OpenLaw.row PySem.Challenge.rw_keybench_k69_whole_keys_told_back_from_d).prog [69]) (H := Kb.hk) (ob := Kb.ob) (M := 4000) (loose := Kb.lo) (d := HandSHeadRun.topDef (OpenLaw.row PySem.Challenge.rw_keybench_k69_whole_keys_told_back_from_d).prog 69) (kwd := []) Kb.ob_eq
    (by kernel_rfl) (fun s => by kernel_rfl) Kb.run (by kernel_rfl) (by kernel_rfl) (by kernel_rfl) (by rfl) (by first | assumption | decide +kernel) (by decide +kernel) ⟨rfl, rfl, rfl, rfl, rfl, by decide +kernel⟩ ?hw ?hc
  case hw => w_witness2
  case hc =>
    refine L2.walk_ofE (l := PySem.Challenge.rw_keybench_k69_whole_keys_told_back_from_d) (n := 63) (k := 8) (x := "_law_script") (CX := L2.CX0) rfl (by decide) (by kernel_rfl) ⟨rfl, by decide, by decide⟩ ?F (fun _ _ _ _ z => z)
    intro w mg fa h Y G hmg0
    obtain ⟨K, KX, c⟩ := Y
    have hmg : mg ("law" : PySem.Str) = some (.ref fa) := by
      have e : (HandSHeadRun.topDef (OpenLaw.row PySem.Challenge.rw_keybench_k69_whole_keys_told_back_from_d).prog 69).name = ("law" : PySem.Str) := by kernel_rfl
      rw [← e]
      exact hmg0
    obtain ⟨fd, hb, hF⟩ := Kb.law_facts KX G hmg c
    exact ⟨K, fd, Kb.LawSp K, KX, hb, fun H a ns hl _ hS => ⟨a, ns, rfl, hS, hl, fun _ => rfl⟩, hF⟩
