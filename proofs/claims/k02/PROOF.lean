import PyProof.Rows.All
import Wide.All
import OpenK.AllK
import Wide.FinOn
import HandS.ForExc
import HandS.ForMost
import HandS.TupAny
import HandS.Wide
import HandS.Flow
import HandS.IsInst
import HandS.Lambda
import PyProof.P3Eq
import HandS.Defaults
import HandS.Exc
import HandS.WordsExc
import HandS.ExcCtx
import HandS.Iter
import HandS.Zip
import HandS.TupMul
import HandS.Style
import HandS.RevTup
import HandS.HotCalls
import HandS.ExcIs
import HandS.HeadHook2
import HandS.HeadHook4
import HandS.Head0
import HandS.Head1
import HandS.Head2
import HandS.HeadWalk
import HandS.EndTab
import KE.KStateDown
import Lean
import PySem.Challenge.RW_cordshares_k02_statements_left_out
set_option Elab.async false
set_option linter.all false
set_option autoImplicit false
set_option maxRecDepth 100000
set_option maxHeartbeats 1000000
/-! Core1: pure data over the layer's heap: D, its likeness in a frozen part F of the heap, slots that own a changing object, the step, the readings den.. -/
namespace Cd
open PySem PySem.Spec L2

/-- pure data -/
inductive D where
  | non | bl (b : Bool) | int (i : Int) | str (x : Str) | lst (ds : List D) | tup (ds : List D) | dic (ks : List Key) (ds : List D) | cst (v : V) | scr (ns : List Int)

mutual
/-- the value v is the data d, by objects of F alone -/
def Rp (K : PySem.W.Frag) (F : Hp) : D → V → Prop
  | .non, v => v = .non
  | .bl b, v => v = .bl b
  | .int i, v => v = .int i
  | .str x, v => v = .str x
  | .cst u, v => v = u
  | .scr ns, v => ∃ a, v = .ref a ∧ SqL K F a (ns.map V.int)
  | .lst ds, v => ∃ a vs, v = .ref a ∧ F a = some (.lst vs) ∧ RpL K F ds vs
  | .tup ds, v => ∃ a vs, v = .ref a ∧ SqT K F a vs ∧ RpL K F ds vs
  | .dic ks ds, v => ∃ a vs, v = .ref a ∧ F a = some (.dK (ks.zip vs)) ∧ ks.length = vs.length ∧ RpL K F ds vs
def RpL (K : PySem.W.Frag) (F : Hp) : List D → List V → Prop
  | [], vs => vs = []
  | d :: ds, vs => ∃ v r, vs = v :: r ∧ Rp K F d v ∧ RpL K F ds r
end

theorem same_t {K : PySem.W.Frag} {F F' : Hp} (e : Same F F') {a : Addr} {xs : List V} (h : SqT K F a xs) : SqT K F' a xs := by
  rcases h with (h | ⟨o, h⟩) | h
  · exact .inl (.inl (e _ _ h))
  · exact .inl (.inr ⟨o, e _ _ h⟩)
  · exact .inr h
mutual
theorem Rp.mono {K : PySem.W.Frag} {F F' : Hp} (e : Same F F') : ∀ {d : D} {v : V}, Rp K F d v → Rp K F' d v
  | .non, _, h => h
  | .bl _, _, h => h
  | .int _, _, h => h
  | .str _, _, h => h
  | .cst _, _, h => h
  | .lst ds, _, ⟨a, vs, h1, h2, h3⟩ => ⟨a, vs, h1, e _ _ h2, RpL.mono e h3⟩
  | .scr ns, _, ⟨a, h1, h2⟩ => ⟨a, h1, e.seq h2⟩
  | .tup ds, _, ⟨a, vs, h1, h2, h3⟩ => ⟨a, vs, h1, same_t e h2, RpL.mono e h3⟩
  | .dic ks ds, _, ⟨a, vs, h1, h2, h4, h3⟩ => ⟨a, vs, h1, e _ _ h2, h4, RpL.mono e h3⟩
theorem RpL.mono {K : PySem.W.Frag} {F F' : Hp} (e : Same F F') : ∀ {ds : List D} {vs : List V}, RpL K F ds vs → RpL K F' ds vs
  | [], _, h => h
  | _ :: _, _, ⟨v, r, h1, h2, h3⟩ => ⟨v, r, h1, Rp.mono e h2, RpL.mono e h3⟩
end
section
variable {K : PySem.W.Frag} {F F' H H' : Hp}
theorem RpL.nil : RpL K F [] [] := by unfold RpL; rfl
theorem RpL.cons {d : D} {ds : List D} {v : V} {vs : List V} (h : Rp K F d v) (t : RpL K F ds vs) : RpL K F (d :: ds) (v :: vs) := by unfold RpL; exact ⟨v, vs, rfl, h, t⟩
theorem RpL.len : ∀ {ds : List D} {vs : List V}, RpL K F ds vs → vs.length = ds.length
  | [], _, h => by unfold RpL at h; subst h; rfl
  | _ :: _, _, h => by
    unfold RpL at h
    obtain ⟨v, r, rfl, _, h3⟩ := h
    rw [List.length_cons, List.length_cons, RpL.len h3]
theorem RpL.get : ∀ {ds : List D} {vs : List V} {i : Nat} {d : D}, RpL K F ds vs → ds[i]? = some d → ∃ v, vs[i]? = some v ∧ Rp K F d v
  | [], _, i, d, _, e => by simp at e
  | _ :: _, _, 0, d, h, e => by
    unfold RpL at h
    obtain ⟨v, r, rfl, h2, _⟩ := h
    simp at e; subst e
    exact ⟨v, rfl, h2⟩
  | _ :: _, _, i + 1, d, h, e => by
    unfold RpL at h
    obtain ⟨v, r, rfl, _, h3⟩ := h
    obtain ⟨w, e1, e2⟩ := RpL.get (i := i) h3 (by simpa using e)
    exact ⟨w, by simpa using e1, e2⟩
theorem RpL.geti : ∀ {ds : List D} {vs : List V} {i : Nat} {v : V}, RpL K F ds vs → vs[i]? = some v → ∃ d, ds[i]? = some d ∧ Rp K F d v
  | [], _, i, d, h, e => by unfold RpL at h; subst h; simp at e
  | _ :: _, _, 0, d, h, e => by
    unfold RpL at h
    obtain ⟨v, r, rfl, h2, _⟩ := h
    simp at e; subst e
    exact ⟨_, rfl, h2⟩
  | _ :: _, _, i + 1, d, h, e => by
    unfold RpL at h
    obtain ⟨v, r, rfl, _, h3⟩ := h
    obtain ⟨w, e1, e2⟩ := RpL.geti (i := i) h3 (by simpa using e)
    exact ⟨w, by simpa using e1, e2⟩
theorem RpL.app : ∀ {ds es : List D} {vs ws : List V}, RpL K F ds vs → RpL K F es ws → RpL K F (ds ++ es) (vs ++ ws)
  | [], _, _, _, h, t => by unfold RpL at h; subst h; exact t
  | _ :: _, _, _, _, h, t => by
    unfold RpL at h
    obtain ⟨v, r, rfl, h2, h3⟩ := h
    exact RpL.cons h2 (RpL.app h3 t)
theorem RpL.take : ∀ {ds : List D} {vs : List V} (n : Nat), RpL K F ds vs → RpL K F (ds.take n) (vs.take n)
  | _, _, 0, _ => by simpa using RpL.nil
  | [], _, n + 1, h => by unfold RpL at h; subst h; simpa using RpL.nil
  | _ :: _, _, n + 1, h => by
    unfold RpL at h
    obtain ⟨v, r, rfl, h2, h3⟩ := h
    exact RpL.cons h2 (RpL.take n h3)
theorem RpL.drop : ∀ {ds : List D} {vs : List V} (n : Nat), RpL K F ds vs → RpL K F (ds.drop n) (vs.drop n)
  | _, _, 0, h => by simpa using h
  | [], _, n + 1, h => by unfold RpL at h; subst h; simpa using RpL.nil
  | _ :: _, _, n + 1, h => by
    unfold RpL at h
    obtain ⟨v, r, rfl, h2, h3⟩ := h
    simpa using RpL.drop n h3
theorem RpL.set : ∀ {ds : List D} {vs : List V} {d : D} {v : V} (n : Nat), RpL K F ds vs → Rp K F d v → RpL K F (ds.set n d) (vs.set n v)
  | [], _, _, _, n, h, _ => by unfold RpL at h; subst h; simpa using RpL.nil
  | _ :: _, _, d, v, 0, h, q => by
    unfold RpL at h
    obtain ⟨v, r, rfl, h2, h3⟩ := h
    exact RpL.cons q h3
  | _ :: _, _, d, v, n + 1, h, q => by
    unfold RpL at h
    obtain ⟨v, r, rfl, h2, h3⟩ := h
    exact RpL.cons h2 (RpL.set n h3 q)
theorem RpL.rev : ∀ {ds : List D} {vs : List V}, RpL K F ds vs → RpL K F ds.reverse vs.reverse
  | [], _, h => by unfold RpL at h; subst h; simpa using RpL.nil
  | _ :: _, _, h => by
    unfold RpL at h
    obtain ⟨v, r, rfl, h2, h3⟩ := h
    rw [List.reverse_cons, List.reverse_cons]
    exact (RpL.rev h3).app (RpL.cons h2 RpL.nil)
theorem RpL.map {α : Type} {f : α → D} {g : α → V} (h : ∀ x, Rp K F (f x) (g x)) : ∀ xs : List α, RpL K F (xs.map f) (xs.map g)
  | [] => by simpa using RpL.nil
  | x :: r => RpL.cons (h x) (RpL.map h r)
end

/-- no table of code objects -/
def NT (o : HO) : Prop := ∀ ps, o ≠ .tbl ps
/-- the defs whose texts make lambdas -/
def lamNames : List Str := ["law", "_law_judged", "_law_refused", "_law_changed", "_law_shown", "_law_wrong", "_law_called", "_law_bad", "_law_attempted", "_law_of_script", "_law_of_place"]
/-- their tables, by what K holds -/
def tabAt (K : PySem.W.Frag) (x : Str) : Option (Addr × Str) := match PySem.W.nsIn K mainGlobals x with
  | some (some (.ref f)) => (match K.lookup f with
    | some ⟨_, _, .func fd, _⟩ => (match fd.code with
      | .ref c => (match K.lookup c with
        | some ⟨_, _, .fields vs, _⟩ => (match vs.getD 11 .none with
          | .ref P => some (P, fd.qualname ++ ".<locals>.<lambda>")
          | _ => none)
        | _ => none)
      | _ => none)
    | _ => none)
  | _ => none
def tabsOf (K : PySem.W.Frag) : List (Addr × Str) := lamNames.filterMap (tabAt K)
/-- what a slot may own: an object that changes -/
inductive MO where
  | lst (ds : List D) | dic (ks : List Key) (ds : List D)
def MRp (K : PySem.W.Frag) (F : Hp) : MO → HO → Prop
  | .lst ds, o => ∃ vs, o = .lst vs ∧ RpL K F ds vs
  | .dic ks ds, o => ∃ vs, o = .dK (ks.zip vs) ∧ ks.length = vs.length ∧ RpL K F ds vs
theorem MRp.mono {K : PySem.W.Frag} {F F' : Hp} (e : Same F F') {m : MO} {o : HO} (h : MRp K F m o) : MRp K F' m o := by
  cases m with
  | lst ds => obtain ⟨vs, h1, h2⟩ := h; exact ⟨vs, h1, h2.mono e⟩
  | dic ks ds => obtain ⟨vs, h1, h3, h2⟩ := h; exact ⟨vs, h1, h3, h2.mono e⟩
/-- a list, a dict that changes leaves the tables as they are -/
theorem tabs_mut {T : List (Addr × Str)} {H : Hp} {a : Addr} {o o' : HO} (t : LamX.Tabs T H) (h : H a = some o) (n1 : NT o) (n2 : ∀ φ, o ≠ .ext φ) : LamX.Tabs T (upd H a o') := fun p hp => by
  obtain ⟨ps, h1, h2, h3⟩ := t p hp
  have ne : p.1 ≠ a := fun z => by rw [z, h] at h1; exact n1 ps (Option.some.inj h1)
  refine ⟨ps, by rw [upd_ne ne]; exact h1, h2, fun pos cv hc => ?_⟩
  obtain ⟨c, e1, e2⟩ := h3 pos cv hc
  refine ⟨c, e1, ?_⟩
  rw [upd_ne]
  · exact e2
  · rintro rfl
    rw [h] at e2
    exact n2 _ (Option.some.inj e2)
theorem MRp.nx {K : PySem.W.Frag} {F : Hp} {m : MO} {o : HO} (h : MRp K F m o) : ∀ φ, o ≠ .ext φ := fun φ e => by
  subst e
  cases m with
  | lst ds => obtain ⟨vs, h1, _⟩ := h; cases h1
  | dic ks ds => obtain ⟨vs, h1, _⟩ := h; cases h1
theorem MRp.nt {K : PySem.W.Frag} {F : Hp} {m : MO} {o : HO} (h : MRp K F m o) : NT o := fun ps e => by
  subst e
  cases m with
  | lst ds => obtain ⟨vs, h1, _⟩ := h; cases h1
  | dic ks ds => obtain ⟨vs, h1, _⟩ := h; cases h1
/-- frozen -/
def MO.frz : MO → D
  | .lst ds => .lst ds
  | .dic ks ds => .dic ks ds
theorem MRp.frz {K : PySem.W.Frag} {F : Hp} {m : MO} {o : HO} {a : Addr} (h : MRp K F m o) (e : F a = some o) : Rp K F m.frz (.ref a) := by
  cases m with
  | lst ds => obtain ⟨vs, rfl, h2⟩ := h; unfold MO.frz Rp; exact ⟨a, vs, rfl, e, h2⟩
  | dic ks ds => obtain ⟨vs, rfl, h3, h2⟩ := h; unfold MO.frz Rp; exact ⟨a, vs, rfl, e, h3, h2⟩

/-- what a slot holds: nothing, data, an object of its own (true: the caller's) -/
inductive Val where
  | un | dat (d : D) | own (p : Bool) (m : MO)
abbrev Rho := List Val

structure Rep (K : PySem.W.Frag) (F H : Hp) (σ : St) (ρ : Rho) : Prop where
  len : ρ.length = σ.length
  sub : Same F H
  tab : LamX.Tabs (tabsOf K) H
  nt : ∀ b o, F b = some o → NT o
  dat : ∀ (i : Nat) (d : D), ρ[i]? = some (Val.dat d) → ∃ v, σ[i]? = some (some v) ∧ Rp K F d v
  own : ∀ (i : Nat) (p : Bool) (m : MO), ρ[i]? = some (Val.own p m) → ∃ a o, σ[i]? = some (some (V.ref a)) ∧ F a = none ∧ H a = some o ∧ MRp K F m o
  dis : ∀ (i j : Nat) (a : Addr) (p q : Bool) (m n : MO), ρ[i]? = some (Val.own p m) → ρ[j]? = some (Val.own q n) → σ[i]? = some (some (V.ref a)) → σ[j]? = some (some (V.ref a)) → i = j
/-- a slot owns the object at b -/
def Ow (σ : St) (ρ : Rho) (b : Addr) : Prop := ∃ (i : Nat) (p : Bool) (m : MO), ρ[i]? = some (Val.own p m) ∧ σ[i]? = some (some (V.ref b))
structure Stp (K : PySem.W.Frag) (F H : Hp) (σ : St) (ρ : Rho) (F' H' : Hp) (σ' : St) (ρ' : Rho) : Prop where
  rep : Rep K F' H' σ' ρ'
  ext : Same F F'
  keep : ∀ b o, H b = some o → ¬ Ow σ ρ b → NT o → H' b = some o
  thr : ∀ b, H' b = none → H b = none
  frz : ∀ b o, F' b = some o → F b = none → H b = none ∨ Ow σ ρ b
  own : ∀ b, Ow σ' ρ' b → Ow σ ρ b ∨ H b = none
  par : ∀ (i : Nat) (m : MO), ρ[i]? = some (Val.own true m) → (∃ m', ρ'[i]? = some (Val.own true m')) ∧ σ'[i]? = σ[i]?
  up : ∀ (i : Nat) (m : MO), ρ'[i]? = some (Val.own true m) → ∃ m0, ρ[i]? = some (Val.own true m0)

section
variable {K : PySem.W.Frag} {F H F1 H1 F2 H2 : Hp} {σ σ1 σ2 : St} {ρ ρ1 ρ2 : Rho}
theorem Rep.ow_some (R : Rep K F H σ ρ) {b : Addr} (h : Ow σ ρ b) : F b = none ∧ ∃ o, H b = some o := by
  obtain ⟨i, p, m, h1, h2⟩ := h
  obtain ⟨a, o, e1, e2, e3, _⟩ := R.own i p m h1
  rw [h2] at e1; cases e1
  exact ⟨e2, o, e3⟩
theorem Stp.refl (R : Rep K F H σ ρ) : Stp K F H σ ρ F H σ ρ :=
  ⟨R, Same.refl _, fun _ _ h _ _ => h, fun _ h => h, fun b o h1 h2 => (by rw [h2] at h1; cases h1), fun _ h => .inl h, fun i m h => ⟨⟨m, h⟩, rfl⟩, fun i m h => ⟨m, h⟩⟩
theorem Stp.trans (a : Stp K F H σ ρ F1 H1 σ1 ρ1) (b : Stp K F1 H1 σ1 ρ1 F2 H2 σ2 ρ2) : Stp K F H σ ρ F2 H2 σ2 ρ2 where
  rep := b.rep
  ext := a.ext.trans b.ext
  keep := fun c o h n nt => b.keep c o (a.keep c o h n nt) (fun w => (a.own c w).elim n fun z => by rw [h] at z; cases z) nt
  thr := fun c h => a.thr c (b.thr c h)
  frz := fun c o h1 h2 => by
    cases q : F1 c with
    | some u => exact a.frz c u q h2
    | none =>
      rcases b.frz c o h1 q with z | z
      · exact .inl (a.thr c z)
      · exact (a.own c z).symm
  own := fun c w => (b.own c w).elim (a.own c) fun z => .inr (a.thr c z)
  par := fun i m h => by
    obtain ⟨⟨m1, h1⟩, e1⟩ := a.par i m h
    obtain ⟨h2, e2⟩ := b.par i m1 h1
    exact ⟨h2, e2.trans e1⟩
  up := fun i m h => let ⟨m1, h1⟩ := b.up i m h; a.up i m1 h1
/-- only new things: what a pure operation leaves -/
structure Nw (F H F' H' : Hp) : Prop where
  ext : Same F F'
  keep : Same H H'
  sub : Same F' H'
  frz : ∀ b o, F' b = some o → F b = none → H b = none
  nt : ∀ b o, F' b = some o → F b = none → NT o
theorem Nw.refl (e : Same F H) : Nw F H F H := ⟨Same.refl _, Same.refl _, e, fun b o h1 h2 => (by rw [h2] at h1; cases h1), fun b o h1 h2 => (by rw [h2] at h1; cases h1)⟩
theorem Nw.trans (a : Nw F H F1 H1) (b : Nw F1 H1 F2 H2) : Nw F H F2 H2 :=
  by
  refine ⟨a.ext.trans b.ext, a.keep.trans b.keep, b.sub, fun c o h1 h2 => ?_, fun c o h1 h2 => ?_⟩
  ·
    cases q : F1 c with
    | some u => exact a.frz c u q h2
    | none =>
      have z := b.frz c o h1 q
      cases e : H c with
      | none => rfl
      | some u => rw [a.keep c u e] at z; cases z
  · cases q : F1 c with
    | some u => rw [b.ext c u q] at h1; injection h1 with h1; rw [← h1]; exact a.nt c u q h2
    | none => exact b.nt c o h1 q
theorem Nw.new {p : Addr} {o : HO} (e : Same F H) (h : H p = none) (n : NT o := by exact fun _ z => nomatch z) : Nw F H (upd F p o) (upd H p o) := by
  have hF : F p = none := e.free h
  refine ⟨fun b u q => by rw [upd_ne (ne_of_none q hF)]; exact q, fun b u q => by rw [upd_ne (ne_of_none q h)]; exact q, fun b u q => ?_, fun b u q z => ?_, fun b u q z => ?_⟩
  · by_cases hb : b = p
    · subst hb; rw [upd_same] at q ⊢; exact q
    · rw [upd_ne hb] at q ⊢; exact e b u q
  · by_cases hb : b = p
    · subst hb; exact h
    · rw [upd_ne hb, z] at q; cases q
  · by_cases hb : b = p
    · subst hb; rw [upd_same] at q; cases q; exact n
    · rw [upd_ne hb, z] at q; cases q
/-- a new object that is not frozen (yet) -/
theorem Nw.lay {p : Addr} {o : HO} (e : Same F H) (h : H p = none) : Nw F H F (upd H p o) :=
  ⟨Same.refl _, fun b u q => by rw [upd_ne (ne_of_none q h)]; exact q, fun b u q => by rw [upd_ne (ne_of_none (e b u q) h)]; exact e b u q, fun b u q z => (by rw [z] at q; cases q), fun b u q z => (by rw [z] at q; cases q)⟩
theorem nt_upd {F : Hp} {p : Addr} {o : HO} (h : ∀ b u, F b = some u → NT u) (n : NT o) : ∀ b u, upd F p o b = some u → NT u := fun b u q => by
  by_cases hb : b = p
  · subst hb; rw [upd_same] at q; cases q; exact n
  · rw [upd_ne hb] at q; exact h b u q
theorem Rep.nw (R : Rep K F H σ ρ) (n : Nw F H F1 H1) : Rep K F1 H1 σ ρ := by
  refine ⟨R.len, n.sub, R.tab.ext n.keep, fun b o h => ?_, fun i d h => let ⟨v, e, r⟩ := R.dat i d h; ⟨v, e, r.mono n.ext⟩, fun i p m h => ?_, R.dis⟩
  · cases q : F b with
    | some u => rw [n.ext b u q] at h; injection h with h; rw [← h]; exact R.nt b u q
    | none => exact n.nt b o h q
  obtain ⟨a, o, e1, e2, e3, r⟩ := R.own i p m h
  refine ⟨a, o, e1, ?_, n.keep a o e3, r.mono n.ext⟩
  cases q : F1 a with
  | none => rfl
  | some u =>
    have z := n.frz a u q e2
    rw [e3] at z
    cases z
theorem Stp.nw (R : Rep K F H σ ρ) (n : Nw F H F1 H1) : Stp K F H σ ρ F1 H1 σ ρ :=
  ⟨R.nw n, n.ext, fun b o h _ _ => n.keep b o h, fun b h => n.keep.free h, fun b o h1 h2 => .inl (n.frz b o h1 h2), fun _ h => .inl h, fun i m h => ⟨⟨m, h⟩, rfl⟩, fun i m h => ⟨m, h⟩⟩
end

/-! ### what a piece of code does: a function of the slots -/
structure Exn where
  name : Str
  line : Option D := none
inductive Res (α : Type) where
  | ok (a : α) (ρ : Rho) | exc (x : Exn) (ρ : Rho) | bad
abbrev SM (α : Type) := Rho → Res α
def SM.pure {α : Type} (a : α) : SM α := fun ρ => .ok a ρ
def SM.bind {α β : Type} (m : SM α) (k : α → SM β) : SM β := fun ρ => match m ρ with
  | .ok a ρ' => k a ρ'
  | .exc x ρ' => .exc x ρ'
  | .bad => .bad
instance : Monad SM where
  pure := SM.pure
  bind := SM.bind
def SM.bad {α : Type} : SM α := fun _ => .bad
/-- a partial function of data -/
def SM.opt {α : Type} : Option α → SM α
  | some a => SM.pure a
  | none => SM.bad

/-- the exception x, of the class cls, its own dict at d, in H (F its frozen part) -/
def XOk (K : PySem.W.Frag) (mg : Str → Option Value) (F' H' : Hp) (x : Exn) (cls : Value) (d : Option Addr) : Prop :=
  ∃ C, mg x.name = some (.ref C) ∧ cls = .ref C ∧ match x.line with
    | none => d = none
    | some l => ∃ a v, d = some a ∧ H' a = some (.xd [("line", v)]) ∧ Rp K F' l v
/-- what is wanted of exceptions -/
def ExcW (K : PySem.W.Frag) (mg : Str → Option Value) (E : XK) (F H : Hp) (σ : St) (ρ : Rho) (x : Exn) (ρ' : Rho) : Prop :=
  ∀ cls d F' H' σ', XOk K mg F' H' x cls d → Stp K F H σ ρ F' H' σ' ρ' → E cls d H'
theorem ExcW.back {K : PySem.W.Frag} {mg : Str → Option Value} {E : XK} {F H F1 H1 : Hp} {σ σ1 : St} {ρ ρ1 ρ' : Rho} {x : Exn} (w : ExcW K mg E F H σ ρ x ρ') (a : Stp K F H σ ρ F1 H1 σ1 ρ1) : ExcW K mg E F1 H1 σ1 ρ1 x ρ' :=
  fun cls d F' H' σ' h1 h2 => w cls d F' H' σ' h1 (a.trans h2)

/-- the same of an expression: the slots' values stay -/
def ExcE (K : PySem.W.Frag) (mg : Str → Option Value) (E : XK) (F H : Hp) (σ : St) (ρ : Rho) (x : Exn) (ρ' : Rho) : Prop :=
  ∀ cls d F' H', XOk K mg F' H' x cls d → Stp K F H σ ρ F' H' σ ρ' → E cls d H'
theorem ExcE.back {K : PySem.W.Frag} {mg : Str → Option Value} {E : XK} {F H F1 H1 : Hp} {σ : St} {ρ ρ1 ρ' : Rho} {x : Exn} (w : ExcE K mg E F H σ ρ x ρ') (a : Stp K F H σ ρ F1 H1 σ ρ1) : ExcE K mg E F1 H1 σ ρ1 x ρ' :=
  fun cls d F' H' h1 h2 => w cls d F' H' h1 (a.trans h2)
theorem ExcW.e {K : PySem.W.Frag} {mg : Str → Option Value} {E : XK} {F H : Hp} {σ : St} {ρ ρ' : Rho} {x : Exn} (w : ExcW K mg E F H σ ρ x ρ') : ExcE K mg E F H σ ρ x ρ' := fun cls d F' H' h1 h2 => w cls d F' H' σ h1 h2

section
variable {α β γ : Type}
/-- how a result a is seen as b in F' -/
abbrev Rl (α β : Type) := Hp → St → α → β → Prop
def denAt (K : PySem.W.Frag) (mg : Str → Option Value) (E : XK) (R : Rl α β) (F : Hp) (ρ : Rho) (m : SM α) (σ : St) (H : Hp) (Q : β → Hp → Prop) : Prop :=
  Rep K F H σ ρ ∧ match m ρ with
  | .ok a ρ' => ∀ F' H' b, Stp K F H σ ρ F' H' σ ρ' → R F' σ a b → Q b H'
  | .exc x ρ' => ExcE K mg E F H σ ρ x ρ'
  | .bad => False
def den (K : PySem.W.Frag) (mg : Str → Option Value) (E : XK) (R : Rl α β) (m : SM α) (σ : St) (H : Hp) (Q : β → Hp → Prop) : Prop := ∃ F ρ, denAt K mg E R F ρ m σ H Q
variable {K : PySem.W.Frag} {mg : Str → Option Value} {E : XK} {R : Rl α β} {δ : Type} {R2 : Rl γ δ} {F H : Hp} {ρ : Rho} {σ : St} {m : SM α} {k : α → SM γ} {Q : β → Hp → Prop} {Q2 : δ → Hp → Prop}
theorem denAt.mono {Q' : β → Hp → Prop} (h : denAt K mg E R F ρ m σ H Q) (q : ∀ b H', Q b H' → Q' b H') : denAt K mg E R F ρ m σ H Q' := by
  refine ⟨h.1, ?_⟩
  have h2 := h.2
  revert h2
  cases m ρ with
  | ok a ρ' => exact fun h2 F' H' b s r => q b H' (h2 F' H' b s r)
  | exc x ρx => exact fun h2 => h2
  | bad => exact fun h2 => h2
theorem den.mono {Q' : β → Hp → Prop} (h : den K mg E R m σ H Q) (q : ∀ b H', Q b H' → Q' b H') : den K mg E R m σ H Q' :=
  let ⟨F, ρ, z⟩ := h; ⟨F, ρ, z.mono q⟩
theorem denAt.bind (h : denAt K mg E R2 F ρ (SM.bind m k) σ H Q2) : denAt K mg E R F ρ m σ H (fun b H1 => ∃ F1 ρ1 a, R F1 σ a b ∧ Same F F1 ∧ denAt K mg E R2 F1 ρ1 (k a) σ H1 Q2) := by
  refine ⟨h.1, ?_⟩
  have h2 := h.2
  unfold SM.bind at h2
  revert h2
  cases e : m ρ with
  | bad => exact fun h2 => h2
  | exc x ρx => exact fun h2 => h2
  | ok a ρ1 =>
    refine fun h2 F1 H1 b s r => ⟨F1, ρ1, a, r, s.ext, s.rep, ?_⟩
    revert h2
    show (match k a ρ1 with
      | .ok a ρ' => ∀ F' H' b, Stp K F H σ ρ F' H' σ ρ' → R2 F' σ a b → Q2 b H'
      | .exc x ρ' => ExcE K mg E F H σ ρ x ρ'
      | .bad => False) → _
    cases k a ρ1 with
    | bad => exact fun h2 => h2
    | exc x ρx => exact fun h2 => h2.back s
    | ok c ρ2 => exact fun h2 F2 H2 d s2 r2 => h2 F2 H2 d (s.trans s2) r2
theorem denAt.of (h : denAt K mg E R F ρ m σ H Q) : den K mg E R m σ H Q := ⟨F, ρ, h⟩
theorem den.bind (h : den K mg E R2 (SM.bind m k) σ H Q2) : den K mg E R m σ H (fun b H1 => ∃ F1 ρ1 a, R F1 σ a b ∧ denAt K mg E R2 F1 ρ1 (k a) σ H1 Q2) := by
  obtain ⟨F, ρ, z⟩ := h
  exact (z.bind (R := R)).mono (fun b H1 ⟨F1, ρ1, a, r, _, q⟩ => ⟨F1, ρ1, a, r, q⟩) |>.of
end
/-- data; truth; lists of data -/
abbrev RD (K : PySem.W.Frag) : Rl D V := fun F _ d v => Rp K F d v
abbrev RB : Rl Bool Bool := fun _ _ a b => a = b
abbrev RL (K : PySem.W.Frag) : Rl (List D) (List V) := fun F _ ds vs => RpL K F ds vs
abbrev RO : Rl (Option Int) (Option Int) := fun _ _ a b => a = b
end Cd

set_option Elab.async false
set_option linter.all false
set_option autoImplicit false
set_option maxRecDepth 100000
set_option maxHeartbeats 1000000
/-! Core2: expressions. -/
namespace Cd
open PySem PySem.Spec L2

theorem PE.wk {X : Cx} {e : Expr} {t t' : TE} (h : PE X e t) (w : ∀ σ H Q, t' σ H Q → t σ H Q) : PE X e t' := ⟨fun pins s σ H Q I q => h.run pins s σ H Q I (w σ H Q q)⟩
theorem PT.wk {X : Cx} {e : Expr} {t t' : TT} (h : PT X e t) (w : ∀ σ H Q, t' σ H Q → t σ H Q) : PT X e t' := ⟨fun pins s σ H Q I q => h.run pins s σ H Q I (w σ H Q q)⟩
theorem PW.wk {X : Cx} {e : Expr} {t t' : TT} (h : PW X e t) (w : ∀ σ H Q, t' σ H Q → t σ H Q) : PW X e t' := ⟨fun wh pins s σ H Q I q => h.run wh pins s σ H Q I (w σ H Q q)⟩
theorem PA.wk {X : Cx} {es : List Expr} {t t' : TA} (h : PA X es t) (w : ∀ σ H Q, t' σ H Q → t σ H Q) : PA X es t' := ⟨fun pos pins s σ H Q I q => h.run pos pins s σ H Q I (w σ H Q q)⟩
theorem PO.wk {X : Cx} {e : Option Expr} {t t' : TO} (h : PO X e t) (w : ∀ σ H Q, t' σ H Q → t σ H Q) : PO X e t' := ⟨fun pins s σ H Q I q => h.run pins s σ H Q I (w σ H Q q)⟩
theorem PS.wk {X : Cx} {st : Stmt} {t t' : TS} (h : PS X st t) (w : ∀ D σ H, t' D σ H → t D σ H) : PS X st t' := ⟨fun pins s σ H D I q => h.run pins s σ H D I (w D σ H q)⟩
theorem PSs.wk {X : Cx} {st : List Stmt} {t t' : TS} (h : PSs X st t) (w : ∀ D σ H, t' D σ H → t D σ H) : PSs X st t' := ⟨fun pins s σ H D I q => h.run pins s σ H D I (w D σ H q)⟩

/-- readings of functions of the slots: data, a truth, a list of data -/
abbrev DE (X : Cx) (E : XK) (m : SM D) : TE := den X.K X.mg E (RD X.K) m
abbrev DB (X : Cx) (E : XK) (m : SM Bool) : TT := den X.K X.mg E RB m
abbrev DL (X : Cx) (E : XK) (m : SM (List D)) : TA := den X.K X.mg E (RL X.K) m
abbrev DO (X : Cx) (E : XK) (m : SM (Option Int)) : TO := den X.K X.mg E RO m

section
variable {α β : Type} {K : PySem.W.Frag} {mg : Str → Option Value} {E : XK} {R : Rl α β} {F H : Hp} {ρ : Rho} {σ : St} {Q : β → Hp → Prop} {a : α}
/-- a value is there -/
theorem denAt.pure (h : denAt K mg E R F ρ (SM.pure a) σ H Q) {F' H' : Hp} {b : β} (n : Nw F H F' H') (r : R F' σ a b) : Q b H' := h.2 F' H' b (Stp.nw h.1 n) r
theorem denAt.pure0 (h : denAt K mg E R F ρ (SM.pure a) σ H Q) {b : β} (r : R F σ a b) : Q b H := h.pure (Nw.refl h.1.sub) r
theorem denAt.bad (h : denAt K mg E R F ρ (SM.bad : SM α) σ H Q) : False := h.2
theorem denAt.sub (h : denAt K mg E R F ρ (SM.pure a) σ H Q) : Same F H := h.1.sub
end

section
variable {X : Cx} {E : XK} {e a b c : Expr} {pos : Pos}

/-! ### names, constants -/
def eVar (i : Nat) : SM D := fun ρ => match ρ[i]? with
  | some (.dat d) => .ok d ρ
  | some (.own false m) => .ok m.frz (ρ.set i (.dat m.frz))
  | _ => .bad
theorem ne_get {α : Type} {l : List α} {i j : Nat} {x : α} (h : j ≠ i) : (l.set i x)[j]? = l[j]? := List.getElem?_set_ne (Ne.symm h)
/-- a slot's own object is frozen -/
theorem Stp.freeze {K : PySem.W.Frag} {F H : Hp} {σ : St} {ρ : Rho} {i : Nat} {m : MO} {a : Addr} {o : HO} (R : Rep K F H σ ρ) (h : ρ[i]? = some (Val.own false m)) (e1 : σ[i]? = some (some (V.ref a))) (e2 : F a = none) (e3 : H a = some o) (r : MRp K F m o) :
    Stp K F H σ ρ (upd F a o) H σ (ρ.set i (.dat m.frz)) ∧ Rp K (upd F a o) m.frz (.ref a) := by
  have ex : Same F (upd F a o) := fun b u q => by rw [upd_ne (ne_of_none q e2)]; exact q
  have rr : Rp K (upd F a o) m.frz (.ref a) := (r.mono ex).frz upd_same
  have hi : i < ρ.length := (List.getElem?_eq_some_iff.mp h).1
  have at_i : (ρ.set i (Val.dat m.frz))[i]? = some (Val.dat m.frz) := List.getElem?_set_self hi
  have own' : ∀ (j : Nat) (p : Bool) (n : MO), (ρ.set i (Val.dat m.frz))[j]? = some (Val.own p n) → j ≠ i ∧ ρ[j]? = some (Val.own p n) := fun j p n q => by
    by_cases hj : j = i
    · subst hj; rw [at_i] at q; cases q
    · rw [ne_get hj] at q; exact ⟨hj, q⟩
  refine ⟨⟨⟨by rw [List.length_set]; exact R.len, fun b u q => ?_, R.tab, nt_upd R.nt r.nt, fun j d q => ?_, fun j p n q => ?_, fun j k c p q n n' h1 h2 h3 h4 => R.dis j k c p q n n' (own' _ _ _ h1).2 (own' _ _ _ h2).2 h3 h4⟩, ex, fun _ _ q _ _ => q, fun _ q => q, fun b u q z => ?_, fun b ⟨j, p, n, q1, q2⟩ => .inl ⟨j, p, n, (own' _ _ _ q1).2, q2⟩, fun j n q => ?_, fun j n q => ⟨n, (own' _ _ _ q).2⟩⟩, rr⟩
  · by_cases hb : b = a
    · subst hb; rw [upd_same] at q; cases q; exact e3
    · rw [upd_ne hb] at q; exact R.sub b u q
  · by_cases hj : j = i
    · subst hj; rw [at_i] at q; cases q; exact ⟨_, e1, rr⟩
    · rw [ne_get hj] at q
      obtain ⟨v, z, y⟩ := R.dat j d q
      exact ⟨v, z, y.mono ex⟩
  · obtain ⟨hj, q'⟩ := own' j p n q
    obtain ⟨a', o', z1, z2, z3, z4⟩ := R.own j p n q'
    refine ⟨a', o', z1, ?_, z3, z4.mono ex⟩
    rw [upd_ne, z2]
    rintro rfl
    exact hj (R.dis j i _ _ _ _ _ q' h z1 e1)
  · by_cases hb : b = a
    · subst hb; exact .inr ⟨i, _, _, h, e1⟩
    · rw [upd_ne hb, z] at q; cases q
  · have hj : j ≠ i := by rintro rfl; rw [h] at q; cases q
    exact ⟨⟨n, by rw [ne_get hj]; exact q⟩, rfl⟩
theorem e_var (i : Nat) {x : Str} (hN : X.N[i]? = some x) (hv : Vis X.env.scope x) (hd : (x == ("__debug__" : Str)) = false := by decide) (hcd : (x == ("__classdict__" : Str)) = false := by decide) : PE X (.Name x pos) (DE X E (eVar i)) := by
  refine PE.wk (pe_var hN hv hd hcd) fun σ H Q ⟨F, ρ, R, h⟩ => ?_
  unfold eVar at h
  revert h
  cases q : ρ[i]? with
  | none => exact fun h => h.elim
  | some w =>
    cases w with
    | un => exact fun h => h.elim
    | dat d =>
      intro h
      obtain ⟨v, e, r⟩ := R.dat i d q
      exact ⟨v, e, h F H v (Stp.refl R) r⟩
    | own p m =>
      cases p with
      | true => exact fun h => h.elim
      | false =>
        intro h
        obtain ⟨a, o, e1, e2, e3, r⟩ := R.own i false m q
        obtain ⟨s, rr⟩ := Stp.freeze R q e1 e2 e3 r
        exact ⟨_, e1, h _ _ _ s rr⟩
/-- a constant -/
abbrev eC (d : D) : SM D := SM.pure d
theorem e_c {d : D} {v : V} (h : PE X e (tC v)) (r : ∀ F, Rp X.K F d v) : PE X e (DE X E (eC d)) := PE.wk h fun σ H Q ⟨F, ρ, h⟩ => h.pure0 (r F)
theorem e_int {i : Int} {j} : PE X (.Constant (.int i) j pos) (DE X E (eC (.int i))) := e_c pe_int fun F => by unfold Rp; rfl
theorem e_bl {i : Bool} {j} : PE X (.Constant (.bool i) j pos) (DE X E (eC (.bl i))) := e_c pe_bl fun F => by unfold Rp; rfl
theorem e_non {j} : PE X (.Constant .none j pos) (DE X E (eC .non)) := e_c pe_non fun F => by unfold Rp; rfl
theorem e_str {i : Str} {j} : PE X (.Constant (.str i) j pos) (DE X E (eC (.str i))) := e_c pe_str fun F => by unfold Rp; rfl

/-! ### operations on data -/
/-- r does what f says, of data -/
def RSem (K : PySem.W.Frag) (f : D → D → Option D) (r : R2) : Prop :=
  ∀ a b c, f a b = some c → ∀ (F H : Hp) (x y : V) (Q : VK), Same F H → Rp K F a x → Rp K F b y → (∀ F' H' v, Nw F H F' H' → Rp K F' c v → Q v H') → r x y H Q
theorem OpR.or {f : Value → Value → Sem Value} {r r' : R2} (h : OpR X f r) (h' : OpR X f r') : OpR X f (fun x y H Q => r x y H Q ∨ r' x y H Q) := fun pins s σ H x y v u Q I r1 r2 z =>
  z.elim (h pins s σ H x y v u Q I r1 r2) (h' pins s σ H x y v u Q I r1 r2)
theorem IxR.or {r r' : R2} (h : IxR X r) (h' : IxR X r') : IxR X (fun x y H Q => r x y H Q ∨ r' x y H Q) := fun va sl pins s σ H x y v u Q I r1 r2 z hs =>
  z.elim (fun z => h va sl pins s σ H x y v u Q I r1 r2 z hs) (fun z => h' va sl pins s σ H x y v u Q I r1 r2 z hs)
/-- two operands, then f -/
def eBin (f : D → D → Option D) (m n : SM D) : SM D := SM.bind m fun a => SM.bind n fun b => SM.opt (f a b)
theorem tOp_of {f : D → D → Option D} {r : R2} {m n : SM D} (hs : RSem X.K f r) {σ : St} {H : Hp} {Q : VK} (h : DE X E (eBin f m n) σ H Q) : tOp r (DE X E m) (DE X E n) σ H Q := by
  refine (den.bind (R := RD X.K) h).mono fun x H1 ⟨F1, ρ1, d1, r1, q1⟩ => ?_
  refine ((denAt.bind (R := RD X.K) q1).mono fun y H2 ⟨F2, ρ2, d2, r2, ex, q2⟩ => ?_).of
  cases z : f d1 d2 with
  | none => rw [z] at q2; exact q2.bad.elim
  | some c =>
    rw [z] at q2
    exact hs d1 d2 c z F2 H2 x y Q q2.sub (r1.mono ex) r2 fun F' H' v nw rr => q2.pure nw rr
theorem e_op {op : Operator} {f : D → D → Option D} {r : R2} {m n : SM D} (ho : OpR X (binaryOp op) r) (hs : RSem X.K f r) (ha : PE X a (DE X E m)) (hb : PE X b (DE X E n)) : PE X (.BinOp a op b pos) (DE X E (eBin f m n)) :=
  PE.wk (pe_op ho ha hb) fun σ H Q h => tOp_of hs h
theorem e_cmp {op : CmpOp} {f : D → D → Option D} {r : R2} {m n : SM D} (ho : OpR X (compareOp op) r) (hs : RSem X.K f r) (ha : PE X a (DE X E m)) (hb : PE X b (DE X E n)) (hm : behindInMarks op b = false) : PE X (.Compare a [op] [b] pos) (DE X E (eBin f m n)) :=
  PE.wk (pe_cmpR ho ha hb hm) fun σ H Q h => tOp_of hs h
theorem e_ix {f : D → D → Option D} {r : R2} {m n : SM D} (ho : IxR X r) (hs : RSem X.K f r) (ha : PE X a (DE X E m)) (hb : PE X b (DE X E n)) (hp : PlainIx b) : PE X (.Subscript a b pos) (DE X E (eBin f m n)) :=
  PE.wk (pe_ix ho ha hb hp) fun σ H Q h => tOp_of hs h

/-! ### tests -/
/-- the truth of a bool -/
def bOf (m : SM D) : SM Bool := SM.bind m fun d => match d with
  | .bl b => SM.pure b
  | _ => SM.bad
theorem bOf_use {m : SM D} {σ : St} {H : Hp} {Q : Bool → Hp → Prop} (h : DB X E (bOf m) σ H Q) : DE X E m σ H (fun x H1 => ∃ k, x = .bl k ∧ Q k H1) := by
  refine (den.bind (R := RD X.K) h).mono fun x H1 ⟨F1, ρ1, d1, r1, q1⟩ => ?_
  cases d1 with
  | bl b => unfold Rp at r1; exact ⟨b, r1, q1.pure0 rfl⟩
  | _ => exact q1.bad.elim
theorem t_val {m : SM D} (h : PE X e (DE X E m)) (he : ∀ whole, isTrue e X.env whole = (do let v ← whole; standAt e.pos; holding [v] (truthy v)) := by intro _; rfl) : PT X e (DB X E (bOf m)) :=
  PT.wk (pt_val h he) fun σ H Q h => bOf_use h
theorem t_cmp {op : CmpOp} {f : D → D → Option D} {r : R2} {m n : SM D} (ho : OpR X (compareOp op) r) (hs : RSem X.K f r) (ha : PE X a (DE X E m)) (hb : PE X b (DE X E n)) (hm : behindInMarks op b = false) : PT X (.Compare a [op] [b] pos) (DB X E (bOf (eBin f m n))) :=
  PT.wk (pt_cmpR ho ha hb hm) fun σ H Q h => tOp_of hs (bOf_use h)
def bNot (t : SM Bool) : SM Bool := SM.bind t fun b => SM.pure (!b)
def bAnd (t u : SM Bool) : SM Bool := SM.bind t fun b => if b = true then u else SM.pure false
def bOr (t u : SM Bool) : SM Bool := SM.bind t fun b => if b = true then SM.pure true else u
variable {t u : SM Bool} {m n : SM D} {rest : List Expr}
theorem t_not (h : PT X a (DB X E t)) : PT X (.UnaryOp .Not a pos) (DB X E (bNot t)) := PT.wk (pt_not h) fun σ H Q h =>
  (den.bind (R := RB) h).mono fun x H1 ⟨F1, ρ1, d1, r1, q1⟩ => q1.pure0 (by rw [← (show d1 = x from r1)])
theorem ifB {b : Bool} {α : Type} {A B : SM α} {K : PySem.W.Frag} {mg : Str → Option Value} {β : Type} {R : Rl α β} {F : Hp} {ρ : Rho} {σ : St} {H : Hp} {Q : β → Hp → Prop} (h : denAt K mg E R F ρ (if b = true then A else B) σ H Q) : if b = true then den K mg E R A σ H Q else den K mg E R B σ H Q := by
  cases b with
  | true => rw [if_pos rfl] at h ⊢; exact h.of
  | false => rw [if_neg Bool.false_ne_true] at h ⊢; exact h.of
theorem w_one (h : PT X a (DB X E t)) : PW X (.BoolOp .And [a] pos) (DB X E t) := pw_and1 h
theorem w_and (h : PT X a (DB X E t)) (k : PW X (.BoolOp .And (b :: rest) pos) (DB X E u)) : PW X (.BoolOp .And (a :: b :: rest) pos) (DB X E (bAnd t u)) := PW.wk (pw_and h k) fun σ H Q h =>
  (den.bind (R := RB) h).mono fun x H1 ⟨F1, ρ1, d1, r1, q1⟩ => by
    cases (show d1 = x from r1)
    cases x with
    | true => exact q1.of
    | false => exact q1.pure0 rfl
theorem w_oneO (h : PT X a (DB X E t)) : PW X (.BoolOp .Or [a] pos) (DB X E t) := pw_or1 h
theorem w_or (h : PT X a (DB X E t)) (k : PW X (.BoolOp .Or (b :: rest) pos) (DB X E u)) : PW X (.BoolOp .Or (a :: b :: rest) pos) (DB X E (bOr t u)) := PW.wk (pw_or h k) fun σ H Q h =>
  (den.bind (R := RB) h).mono fun x H1 ⟨F1, ρ1, d1, r1, q1⟩ => by
    cases (show d1 = x from r1)
    cases x with
    | true => exact q1.pure0 rfl
    | false => exact q1.of
/-- as values -/
def dOf (t : SM Bool) : SM D := SM.bind t fun b => SM.pure (.bl b)
def eNot (m : SM D) : SM D := dOf (bNot (bOf m))
def eAnd (m n : SM D) : SM D := SM.bind (bOf m) fun b => if b = true then n else SM.pure (.bl false)
def eOr (m n : SM D) : SM D := SM.bind (bOf m) fun b => if b = true then SM.pure (.bl true) else n
theorem dOf_use {t : SM Bool} {σ : St} {H : Hp} {Q : VK} (h : DE X E (dOf t) σ H Q) : DB X E t σ H (fun b H1 => Q (.bl b) H1) :=
  (den.bind (R := RB) h).mono fun x H1 ⟨F1, ρ1, d1, r1, q1⟩ => q1.pure0 (by unfold Rp; rw [← (show d1 = x from r1)])
theorem e_not (h : PE X a (DE X E m)) : PE X (.UnaryOp .Not a pos) (DE X E (eNot m)) := PE.wk (pe_not h) fun σ H Q h => by
  have h1 := dOf_use h
  have h2 := (den.bind (R := RB) h1)
  refine (bOf_use h2).mono fun x H1 ⟨k, e, F1, ρ1, d1, r1, q1⟩ => ⟨k, e, q1.pure0 (by rw [← (show d1 = k from r1)])⟩
theorem e_one {op} (h : PE X a (DE X E m)) : PE X (.BoolOp op [a] pos) (DE X E m) := pe_one h
theorem e_and (h : PE X a (DE X E m)) (hk : PE X (.BoolOp .And (b :: rest) pos) (DE X E n)) : PE X (.BoolOp .And (a :: b :: rest) pos) (DE X E (eAnd m n)) := PE.wk (pe_and h hk) fun σ H Q h => by
  refine (bOf_use (den.bind (R := RB) h)).mono fun x H1 ⟨k, e, F1, ρ1, d1, r1, q1⟩ => ⟨k, e, ?_⟩
  cases (show d1 = k from r1)
  cases k with
  | true => exact q1.of
  | false => exact q1.pure0 (by unfold Rp; rfl)
theorem e_or (h : PE X a (DE X E m)) (hk : PE X (.BoolOp .Or (b :: rest) pos) (DE X E n)) : PE X (.BoolOp .Or (a :: b :: rest) pos) (DE X E (eOr m n)) := PE.wk (pe_or h hk) fun σ H Q h => by
  refine (bOf_use (den.bind (R := RB) h)).mono fun x H1 ⟨k, e, F1, ρ1, d1, r1, q1⟩ => ⟨k, e, ?_⟩
  cases (show d1 = k from r1)
  cases k with
  | true => exact q1.pure0 (by unfold Rp; rfl)
  | false => exact q1.of
def eIf (t : SM Bool) (m n : SM D) : SM D := SM.bind t fun b => if b = true then m else n
theorem e_if (hc : PT X c (DB X E t)) (ha : PE X a (DE X E m)) (hb : PE X b (DE X E n)) : PE X (.IfExp c a b pos) (DE X E (eIf t m n)) := PE.wk (pe_ifExp hc ha hb) fun σ H Q h =>
  (den.bind (R := RB) h).mono fun x H1 ⟨F1, ρ1, d1, r1, q1⟩ => by
    cases (show d1 = x from r1)
    exact ifB q1
end

/-! ### lists of expressions; displays -/
def aNil : SM (List D) := SM.pure []
def aCons (m : SM D) (n : SM (List D)) : SM (List D) := SM.bind m fun d => SM.bind n fun ds => SM.pure (d :: ds)
section
variable {X : Cx} {E : XK} {e : Expr} {es : List Expr} {pos : Pos} {m : SM D} {ms : SM (List D)}
theorem a_nil : PA X [] (DL X E aNil) := PA.wk pa_nil fun σ H Q ⟨F, ρ, h⟩ => h.pure0 RpL.nil
theorem a_cons (h : PE X e (DE X E m)) (k : PA X es (DL X E ms)) (hs : starEach (e :: es) X.env = (false, eval e X.env) :: starEach es X.env := by rfl) : PA X (e :: es) (DL X E (aCons m ms)) := PA.wk (pa_cons h k hs) fun σ H Q h =>
  (den.bind (R := RD X.K) h).mono fun x H1 ⟨F1, ρ1, d1, r1, q1⟩ => ((denAt.bind (R := RL X.K) q1).mono fun y H2 ⟨F2, ρ2, d2, r2, ex, q2⟩ => q2.pure0 (RpL.cons (r1.mono ex) r2)).of
/-- at most so long -/
def lim (n : Nat) {α : Type} (a : α) : Option α := if n ≤ sizeLine then some a else none
def eTup (ms : SM (List D)) : SM D := SM.bind ms fun ds => SM.opt (lim ds.length (.tup ds))
def eLst (ms : SM (List D)) : SM D := SM.bind ms fun ds => SM.opt (lim ds.length (.lst ds))
theorem lim_some {n : Nat} {α : Type} {a b : α} (h : lim n a = some b) : n ≤ sizeLine ∧ a = b := by
  unfold lim at h
  split at h
  · rename_i z; exact ⟨z, Option.some.inj h⟩
  · cases h
theorem e_tup {x1} (h : PA X es (DL X E ms)) : PE X (.Tuple es x1 pos) (DE X E (eTup ms)) := PE.wk (pe_tup h) fun σ H Q h =>
  (den.bind (R := RL X.K) h).mono fun x H1 ⟨F1, ρ1, d1, r1, q1⟩ => by
    cases z : lim d1.length (D.tup d1) with
    | none => rw [z] at q1; exact q1.bad.elim
    | some c =>
      obtain ⟨z1, rfl⟩ := lim_some z
      rw [z] at q1
      refine ⟨by rw [r1.len]; exact z1, fun p hp => ?_⟩
      have n := Nw.new (o := .tup x) q1.sub hp
      exact q1.pure n (by unfold Rp; exact ⟨p, x, rfl, SqT.of upd_same, r1.mono n.ext⟩)
theorem Rp.lstI {K : PySem.W.Frag} {F : Hp} {ds : List D} {vs : List V} {p : Addr} (h : F p = some (.lst vs)) (r : RpL K F ds vs) : Rp K F (.lst ds) (.ref p) := by unfold Rp; exact ⟨p, vs, rfl, h, r⟩
theorem Rp.tupI {K : PySem.W.Frag} {F : Hp} {ds : List D} {vs : List V} {p : Addr} (h : F p = some (.tup vs)) (r : RpL K F ds vs) : Rp K F (.tup ds) (.ref p) := by unfold Rp; exact ⟨p, vs, rfl, SqT.of h, r⟩
theorem e_lst (h : PA X es (DL X E ms)) : PE X (.List es pos) (DE X E (eLst ms)) := PE.wk (pe_lst h) fun σ H Q h =>
  (den.bind (R := RL X.K) h).mono fun x H1 ⟨F1, ρ1, d1, r1, q1⟩ => by
    cases z : lim d1.length (D.lst d1) with
    | none => rw [z] at q1; exact q1.bad.elim
    | some c =>
      obtain ⟨z1, rfl⟩ := lim_some z
      rw [z] at q1
      refine ⟨by rw [r1.len]; exact z1, fun p hp => ?_⟩
      have n := Nw.new (o := .lst x) q1.sub hp
      exact q1.pure n (Rp.lstI upd_same (r1.mono n.ext))
end
end Cd

set_option Elab.async false
set_option linter.all false
set_option autoImplicit false
set_option maxRecDepth 100000
set_option maxHeartbeats 1000000
/-! Core3: operators on data. -/
namespace Cd
open PySem PySem.Spec L2

/-! ### plain data as the library has it -/
mutual
def D.pl : D → Bool
  | .non => true | .bl _ => true | .int _ => true
  | .str x => PyData.strOk x
  | .lst ds => D.pls ds | .tup ds => D.pls ds
  | .dic _ _ => false | .cst _ => false | .scr _ => false
def D.pls : List D → Bool
  | [] => true
  | d :: ds => D.pl d && D.pls ds
end
mutual
def D.py : D → PyData
  | .non => .none | .bl b => .bool b | .int i => .int i | .str x => .str x
  | .lst ds => .list (D.pys ds) | .tup ds => .tuple (D.pys ds)
  | .dic _ _ => .none | .cst _ => .none | .scr _ => .none
def D.pys : List D → List PyData
  | [] => []
  | d :: ds => D.py d :: D.pys ds
end
mutual
theorem D.can : ∀ {d : D}, d.pl = true → d.py.canLay0 = true
  | .non, _ => by unfold D.py; rfl
  | .bl _, _ => by unfold D.py; rfl
  | .int _, _ => by unfold D.py; rfl
  | .str x, h => by unfold D.pl at h; unfold D.py PyData.canLay0; exact h
  | .lst ds, h => by unfold D.pl at h; unfold D.py PyData.canLay0; exact D.cans h
  | .tup ds, h => by unfold D.pl at h; unfold D.py PyData.canLay0; exact D.cans h
  | .dic _ _, h => by unfold D.pl at h; cases h
  | .cst _, h => by unfold D.pl at h; cases h
  | .scr _, h => by unfold D.pl at h; cases h
theorem D.cans : ∀ {ds : List D}, D.pls ds = true → PyData.canLayAll0 (D.pys ds) = true
  | [], _ => by unfold D.pys PyData.canLayAll0; rfl
  | d :: ds, h => by
    unfold D.pls at h
    rw [Bool.and_eq_true] at h
    unfold D.pys PyData.canLayAll0
    rw [Bool.and_eq_true]
    exact ⟨D.can h.1, D.cans h.2⟩
end
section
variable {K : PySem.W.Frag} {F H : Hp}
mutual
theorem Rp.dp (e : Same F H) : ∀ {d : D} {v : V}, d.pl = true → Rp K F d v → Dp K H v d.py
  | .non, v, _, h => by unfold Rp at h; subst h; unfold D.py; exact .non
  | .bl _, v, _, h => by unfold Rp at h; subst h; unfold D.py; exact .bl _
  | .int _, v, _, h => by unfold Rp at h; subst h; unfold D.py; exact .int _
  | .str x, v, _, h => by unfold Rp at h; subst h; unfold D.py; exact .str _
  | .lst ds, v, q, h => by
    unfold D.pl at q
    unfold Rp at h
    obtain ⟨a, vs, rfl, h1, h2⟩ := h
    unfold D.py
    exact .lst (SqL.of (e _ _ h1)) (RpL.dp e q h2)
  | .tup ds, v, q, h => by
    unfold D.pl at q
    unfold Rp at h
    obtain ⟨a, vs, rfl, h1, h2⟩ := h
    unfold D.py
    exact .tup (same_t e h1) (RpL.dp e q h2)
  | .dic _ _, _, h, _ => by unfold D.pl at h; cases h
  | .cst _, _, h, _ => by unfold D.pl at h; cases h
  | .scr _, _, h, _ => by unfold D.pl at h; cases h
theorem RpL.dp (e : Same F H) : ∀ {ds : List D} {vs : List V}, D.pls ds = true → RpL K F ds vs → DpAll K H vs (D.pys ds)
  | [], vs, _, h => by unfold RpL at h; subst h; unfold D.pys; exact .nil
  | d :: ds, vs, q, h => by
    unfold D.pls at q
    rw [Bool.and_eq_true] at q
    unfold RpL at h
    obtain ⟨v, r, rfl, h1, h2⟩ := h
    unfold D.pys
    exact .cons (Rp.dp e q.1 h1) (RpL.dp e q.2 h2)
end
end
/-- == of data -/
def D.eqv (a b : D) : Bool := PyData.eqv a.py b.py
def eqD (a b : D) : Option D := if a.pl = true ∧ b.pl = true ∧ min a.py.depth b.py.depth ≤ 64 then some (.bl (D.eqv a b)) else none
def neD (a b : D) : Option D := if a.pl = true ∧ b.pl = true ∧ min a.py.depth b.py.depth ≤ 64 then some (.bl (!D.eqv a b)) else none
def rEqM (K : PySem.W.Frag) : R2 := fun x y H Q => ∃ d e, Dp K H x d ∧ Dp K H y e ∧ d.canLay0 = true ∧ e.canLay0 = true ∧ min d.depth e.depth ≤ 64 ∧ Q (.bl (PyData.eqv d e)) H
def rNeM (K : PySem.W.Frag) : R2 := fun x y H Q => ∃ d e, Dp K H x d ∧ Dp K H y e ∧ d.canLay0 = true ∧ e.canLay0 = true ∧ min d.depth e.depth ≤ 64 ∧ Q (.bl (!PyData.eqv d e)) H
section
variable {X : Cx}
theorem op_eqM (hu : X.A.units + 64 < cLine) : OpR X (compareOp .Eq) (rEqM X.K) := by
  intro pins s σ H x y v u Q I rx ry ⟨d, e, hd, he, sd, se, z, q⟩
  obtain ⟨as, r1⟩ := Dp.reads I d x v hd rx
  obtain ⟨bs, r2⟩ := Dp.reads I e y u he ry
  exact SeqAt.compareEq_reads r1 r2 sd se (by omega) ⟨.bl _, H, I, rfl, q⟩
theorem op_neM (hu : X.A.units + 64 < cLine) : OpR X (compareOp .NotEq) (rNeM X.K) := by
  intro pins s σ H x y v u Q I rx ry ⟨d, e, hd, he, sd, se, z, q⟩
  obtain ⟨as, r1⟩ := Dp.reads I d x v hd rx
  obtain ⟨bs, r2⟩ := Dp.reads I e y u he ry
  exact SeqAt.compareNe_reads r1 r2 sd se (by omega) ⟨.bl _, H, I, rfl, q⟩
end
section
variable {K : PySem.W.Frag}
theorem sem_eq : RSem K eqD (rEqM K) := by
  intro a b c hc F H x y Q e r1 r2 q
  unfold eqD at hc
  split at hc
  · rename_i z
    cases hc
    exact ⟨a.py, b.py, r1.dp e z.1, r2.dp e z.2.1, D.can z.1, D.can z.2.1, z.2.2, q F H _ (Nw.refl e) (by unfold Rp D.eqv; rfl)⟩
  · cases hc
theorem sem_ne : RSem K neD (rNeM K) := by
  intro a b c hc F H x y Q e r1 r2 q
  unfold neD at hc
  split at hc
  · rename_i z
    cases hc
    exact ⟨a.py, b.py, r1.dp e z.1, r2.dp e z.2.1, D.can z.1, D.can z.2.1, z.2.2, q F H _ (Nw.refl e) (by unfold Rp D.eqv; rfl)⟩
  · cases hc

/-! ### whole numbers -/
theorem sem_I {C : Int → Int → Prop} {g : Int → Int → V} {f : D → D → Option D} (h : ∀ a b c, f a b = some c → ∃ i j, a = .int i ∧ b = .int j ∧ C i j ∧ ∀ F, Rp K F c (g i j)) : RSem K f (rI C g) := by
  intro a b c hc F H x y Q e r1 r2 q
  obtain ⟨i, j, rfl, rfl, z, r⟩ := h a b c hc
  unfold Rp at r1 r2
  exact ⟨i, j, r1, r2, z, q F H _ (Nw.refl e) (r F)⟩
theorem sem_I0 {g : Int → Int → V} {f : D → D → Option D} (h : ∀ a b c, f a b = some c → ∃ i j, a = .int i ∧ b = .int j ∧ ∀ F, Rp K F c (g i j)) : RSem K f (rI0 g) := by
  intro a b c hc F H x y Q e r1 r2 q
  obtain ⟨i, j, rfl, rfl, r⟩ := h a b c hc
  unfold Rp at r1 r2
  exact ⟨i, j, r1, r2, q F H _ (Nw.refl e) (r F)⟩
/-- two ints, under a condition -/
def intOp (C : Int → Int → Bool) (g : Int → Int → D) : D → D → Option D
  | .int i, .int j => if C i j = true then some (g i j) else none
  | _, _ => none
theorem intOp_some {C : Int → Int → Bool} {g : Int → Int → D} {a b c : D} (h : intOp C g a b = some c) : ∃ i j, a = .int i ∧ b = .int j ∧ C i j = true ∧ c = g i j := by
  cases a with
  | int i =>
    cases b with
    | int j =>
      have h : (if C i j = true then some (g i j) else none) = some c := h
      split at h
      · rename_i z; cases h; exact ⟨i, j, rfl, rfl, z, rfl⟩
      · cases h
    | _ => simp [intOp] at h
  | _ => simp [intOp] at h
def noC : Int → Int → Bool := fun _ _ => true
def subD : D → D → Option D := intOp noC fun i j => .int (i - j)
def ltD : D → D → Option D := intOp noC fun i j => .bl (decide (i < j))
def leD : D → D → Option D := intOp noC fun i j => .bl (decide (i ≤ j))
def gtD : D → D → Option D := intOp noC fun i j => .bl (decide (i > j))
def geD : D → D → Option D := intOp noC fun i j => .bl (decide (i ≥ j))
def mulC (i j : Int) : Bool := decide (i.natAbs < 2 ^ 64) || decide (j.natAbs < 2 ^ 64) || decide (i.natAbs.log2 + j.natAbs.log2 < 1000000)
def fdivC (_i j : Int) : Bool := decide (j ≠ 0 ∧ j.natAbs < 1073741824) || decide (0 < j ∧ j.natAbs.log2 < 9000)
def fdivD : D → D → Option D := intOp fdivC fun i j => .int (i.fdiv j)
def modD : D → D → Option D := intOp (fun _ j => decide (j ≠ 0)) fun i j => .int (i.fmod j)
def powD : D → D → Option D := intOp (fun i j => decide (0 ≤ j ∧ j ≤ 1000000 ∧ i.natAbs < 2 ^ 64)) fun i j => .int (i ^ j.toNat)
def rFdiv : R2 := fun x y H Q => rI CDivN (fun i j => .int (i.fdiv j)) x y H Q ∨ rI CDivW (fun i j => .int (i / j)) x y H Q
theorem sem_sub : RSem K subD (rI0 fun i j => .int (i - j)) := sem_I0 fun a b c h => by obtain ⟨i, j, h1, h2, _, rfl⟩ := intOp_some h; exact ⟨i, j, h1, h2, fun F => by unfold Rp; rfl⟩
theorem sem_lt : RSem K ltD (rI0 fun i j => .bl (decide (i < j))) := sem_I0 fun a b c h => by obtain ⟨i, j, h1, h2, _, rfl⟩ := intOp_some h; exact ⟨i, j, h1, h2, fun F => by unfold Rp; rfl⟩
theorem sem_le : RSem K leD (rI0 fun i j => .bl (decide (i ≤ j))) := sem_I0 fun a b c h => by obtain ⟨i, j, h1, h2, _, rfl⟩ := intOp_some h; exact ⟨i, j, h1, h2, fun F => by unfold Rp; rfl⟩
theorem sem_gt : RSem K gtD (rI0 fun i j => .bl (decide (i > j))) := sem_I0 fun a b c h => by obtain ⟨i, j, h1, h2, _, rfl⟩ := intOp_some h; exact ⟨i, j, h1, h2, fun F => by unfold Rp; rfl⟩
theorem sem_ge : RSem K geD (rI0 fun i j => .bl (decide (i ≥ j))) := sem_I0 fun a b c h => by obtain ⟨i, j, h1, h2, _, rfl⟩ := intOp_some h; exact ⟨i, j, h1, h2, fun F => by unfold Rp; rfl⟩
theorem sem_mod : RSem K modD (rI (fun _ j => j ≠ 0) fun i j => .int (i.fmod j)) := sem_I fun a b c h => by obtain ⟨i, j, h1, h2, z, rfl⟩ := intOp_some h; exact ⟨i, j, h1, h2, of_decide_eq_true z, fun F => by unfold Rp; rfl⟩
theorem sem_pow : RSem K powD (rI CPow fun i j => .int (i ^ j.toNat)) := sem_I fun a b c h => by obtain ⟨i, j, h1, h2, z, rfl⟩ := intOp_some h; exact ⟨i, j, h1, h2, (show CPow i j from of_decide_eq_true (p := 0 ≤ j ∧ j ≤ 1000000 ∧ i.natAbs < 2 ^ 64) z), fun F => by unfold Rp; rfl⟩
theorem RSem.left {f : D → D → Option D} {r r' : R2} (h : ∀ a b c, f a b = some c → ∀ (F H : Hp) (x y : V) (Q : VK), Same F H → Rp K F a x → Rp K F b y → (∀ F' H' v, Nw F H F' H' → Rp K F' c v → Q v H') → r x y H Q ∨ r' x y H Q) : RSem K f (fun x y H Q => r x y H Q ∨ r' x y H Q) := h
theorem sem_fdiv : RSem K fdivD rFdiv := by
  intro a b c h F H x y Q e r1 r2 q
  obtain ⟨i, j, rfl, rfl, z, rfl⟩ := intOp_some h
  unfold Rp at r1 r2
  unfold fdivC at z
  rw [Bool.or_eq_true] at z
  rcases z with z | z
  · exact .inl ⟨i, j, r1, r2, (show CDivN i j from of_decide_eq_true (p := j ≠ 0 ∧ j.natAbs < 1073741824) z), q F H _ (Nw.refl e) (by unfold Rp; rfl)⟩
  · have z := of_decide_eq_true z
    refine .inr ⟨i, j, r1, r2, ⟨z.1, z.2⟩, ?_⟩
    have : i / j = i.fdiv j := (Int.fdiv_eq_ediv_of_nonneg i (by omega)).symm
    show Q (V.int (i / j)) H
    rw [this]
    exact q F H _ (Nw.refl e) (by unfold Rp; rfl)
theorem op_fdivD {X : Cx} : OpR X (binaryOp .FloorDiv) rFdiv := OpR.or op_fdivN op_fdivW
end

/-! ### + and * -/
def addD : D → D → Option D
  | .int i, .int j => some (.int (i + j))
  | .str x, .str y => lim (x.length + y.length) (.str (x ++ y))
  | .tup a, .tup b => lim (a.length + b.length) (.tup (a ++ b))
  | .lst a, .lst b => lim (a.length + b.length) (.lst (a ++ b))
  | _, _ => none
def rAddS : R2 := fun x y H Q => ∃ i j, x = .str i ∧ y = .str j ∧ i.length + j.length ≤ sizeLine ∧ Q (.str (i ++ j)) H
def rAddD (K : PySem.W.Frag) : R2 := fun x y H Q => rI0 (fun i j => .int (i + j)) x y H Q ∨ rAddS x y H Q ∨ rCatA K x y H Q ∨ rCat x y H Q
theorem op_addD {X : Cx} : OpR X (binaryOp .Add) (rAddD X.K) := OpR.or op_add (OpR.or op_add_str (OpR.or op_catA op_cat))
theorem sem_add {K : PySem.W.Frag} : RSem K addD (rAddD K) := by
  intro a b c hc F H x y Q e r1 r2 q
  cases a with
  | int i =>
    cases b with
    | int j =>
      cases hc
      unfold Rp at r1 r2
      exact .inl ⟨i, j, r1, r2, q F H _ (Nw.refl e) (by unfold Rp; rfl)⟩
    | _ => cases hc
  | str i =>
    cases b with
    | str j =>
      obtain ⟨z, rfl⟩ := lim_some hc
      unfold Rp at r1 r2
      exact .inr (.inl ⟨i, j, r1, r2, z, q F H _ (Nw.refl e) (by unfold Rp; rfl)⟩)
    | _ => cases hc
  | tup xs =>
    cases b with
    | tup ys =>
      obtain ⟨z, rfl⟩ := lim_some hc
      unfold Rp at r1 r2
      obtain ⟨p, vs, rfl, h1, h2⟩ := r1
      obtain ⟨p', ws, rfl, h3, h4⟩ := r2
      refine .inr (.inr (.inl ⟨p, p', vs, ws, rfl, rfl, same_t e h1, same_t e h3, by rw [h2.len, h4.len]; exact z, fun n => ?_, fun n n' => ?_, fun n n' u hu => ?_⟩))
      · subst n
        have : xs = [] := by have := h2.len; simpa using this.symm
        subst this
        exact q F H _ (Nw.refl e) (by unfold Rp; exact ⟨p', ws, rfl, h3, h4⟩)
      · subst n'
        have : ys = [] := by have := h4.len; simpa using this.symm
        subst this
        rw [List.append_nil] at q
        exact q F H _ (Nw.refl e) (by unfold Rp; exact ⟨p, vs, rfl, h1, h2⟩)
      · have n := Nw.new (o := .tup (vs ++ ws)) e hu
        exact q _ _ _ n (Rp.tupI upd_same ((h2.app h4).mono n.ext))
    | _ => cases hc
  | lst xs =>
    cases b with
    | lst ys =>
      obtain ⟨z, rfl⟩ := lim_some hc
      unfold Rp at r1 r2
      obtain ⟨p, vs, rfl, h1, h2⟩ := r1
      obtain ⟨p', ws, rfl, h3, h4⟩ := r2
      refine .inr (.inr (.inr ⟨p, p', vs, ws, rfl, rfl, e _ _ h1, e _ _ h3, by rw [h2.len, h4.len]; exact z, fun u hu => ?_⟩))
      have n := Nw.new (o := .lst (vs ++ ws)) e hu
      exact q _ _ _ n (Rp.lstI upd_same ((h2.app h4).mono n.ext))
    | _ => cases hc
  | _ => cases hc
/-- * of whole numbers (of a list or a tuple: see mulSD) -/
def mulD : D → D → Option D := intOp mulC fun i j => .int (i * j)
def rMulD : R2 := fun x y H Q => rI CMul (fun i j => .int (i * j)) x y H Q ∨ rI CMulW (fun i j => .int (i * j)) x y H Q
theorem op_mulD {X : Cx} : OpR X (binaryOp .Mult) rMulD := OpR.or op_mul op_mulW
theorem sem_mul {K : PySem.W.Frag} : RSem K mulD rMulD := by
  intro a b c h F H x y Q e r1 r2 q
  obtain ⟨i, j, rfl, rfl, z, rfl⟩ := intOp_some h
  unfold Rp at r1 r2
  unfold mulC at z
  rw [Bool.or_eq_true, Bool.or_eq_true] at z
  have fin : ∀ F, Rp K F (D.int (i * j)) (V.int (i * j)) := fun F => by unfold Rp; rfl
  rcases z with (z | z) | z
  · have z := of_decide_eq_true z
    exact .inl ⟨i, j, r1, r2, .inl (by omega), q F H _ (Nw.refl e) (fin F)⟩
  · have z := of_decide_eq_true z
    exact .inl ⟨i, j, r1, r2, .inr (by omega), q F H _ (Nw.refl e) (fin F)⟩
  · exact .inr ⟨i, j, r1, r2, (show CMulW i j from of_decide_eq_true (p := i.natAbs.log2 + j.natAbs.log2 < 1000000) z), q F H _ (Nw.refl e) (fin F)⟩

/-! ### is None; in -/
def isD (a b : D) : Option D := match b with
  | .non => match a with
    | .non => some (.bl true)
    | .cst _ => none
    | _ => some (.bl false)
  | _ => none
def isntD (a b : D) : Option D := match b with
  | .non => match a with
    | .non => some (.bl false)
    | .cst _ => none
    | _ => some (.bl true)
  | _ => none
theorem isN_val {K : PySem.W.Frag} {F : Hp} {a : D} {x : V} (r : Rp K F a x) : (a = .non ∧ decide (x = .non) = true) ∨ (∃ v, a = .cst v) ∨ (decide (x = .non) = false ∧ ∀ b c : D, (match a with | .non => b | .cst _ => b | _ => c) = c) := by
  cases a with
  | non => unfold Rp at r; subst r; exact .inl ⟨rfl, rfl⟩
  | cst v => exact .inr (.inl ⟨v, rfl⟩)
  | bl b => unfold Rp at r; subst r; exact .inr (.inr ⟨by simp, fun _ _ => rfl⟩)
  | int b => unfold Rp at r; subst r; exact .inr (.inr ⟨by simp, fun _ _ => rfl⟩)
  | str b => unfold Rp at r; subst r; exact .inr (.inr ⟨by simp, fun _ _ => rfl⟩)
  | lst ds => unfold Rp at r; obtain ⟨a, vs, rfl, _⟩ := r; exact .inr (.inr ⟨by simp, fun _ _ => rfl⟩)
  | tup ds => unfold Rp at r; obtain ⟨a, vs, rfl, _⟩ := r; exact .inr (.inr ⟨by simp, fun _ _ => rfl⟩)
  | dic ks ds => unfold Rp at r; obtain ⟨a, vs, rfl, _⟩ := r; exact .inr (.inr ⟨by simp, fun _ _ => rfl⟩)
  | scr ns => unfold Rp at r; obtain ⟨a, rfl, _⟩ := r; exact .inr (.inr ⟨by simp, fun _ _ => rfl⟩)
def rIsN' : R2 := fun x y H Q => y = .non ∧ Q (.bl (decide (x = .non))) H
def rNotN' : R2 := fun x y H Q => y = .non ∧ Q (.bl (!decide (x = .non))) H
theorem op_is' {X : Cx} : OpR X (compareOp .Is) rIsN' := op_isN
theorem op_isnt' {X : Cx} : OpR X (compareOp .IsNot) rNotN' := op_notN
theorem sem_is {K : PySem.W.Frag} : RSem K isD rIsN' := by
  intro a b c hc F H x y Q e r1 r2 q
  cases b with
  | non =>
    unfold Rp at r2
    refine ⟨r2, ?_⟩
    rcases isN_val r1 with ⟨rfl, z⟩ | ⟨v, rfl⟩ | ⟨z, w⟩
    · cases hc; rw [z]; exact q F H _ (Nw.refl e) (by unfold Rp; rfl)
    · cases hc
    · rw [z]
      have : c = .bl false := by cases a <;> first | (unfold Rp at r1; subst r1; simp at z; done) | (cases hc; rfl) | (cases hc)
      subst this
      exact q F H _ (Nw.refl e) (by unfold Rp; rfl)
  | _ => cases hc
theorem sem_isnt {K : PySem.W.Frag} : RSem K isntD rNotN' := by
  intro a b c hc F H x y Q e r1 r2 q
  cases b with
  | non =>
    unfold Rp at r2
    refine ⟨r2, ?_⟩
    rcases isN_val r1 with ⟨rfl, z⟩ | ⟨v, rfl⟩ | ⟨z, w⟩
    · cases hc; rw [z]; exact q F H _ (Nw.refl e) (by unfold Rp; rfl)
    · cases hc
    · rw [z]
      have : c = .bl true := by cases a <;> first | (unfold Rp at r1; subst r1; simp at z; done) | (cases hc; rfl) | (cases hc)
      subst this
      exact q F H _ (Nw.refl e) (by unfold Rp; rfl)
  | _ => cases hc

/-- flat data -/
def D.flat : D → Bool
  | .non => true | .bl _ => true | .int _ => true | .str _ => true
  | _ => false
def D.toV : D → V
  | .non => .non | .bl b => .bl b | .int i => .int i | .str x => .str x
  | .cst v => v
  | _ => .non
theorem Rp.flat {K : PySem.W.Frag} {F : Hp} {d : D} {v : V} (h : d.flat = true) (r : Rp K F d v) : v = d.toV ∧ flatV v = true := by
  cases d with
  | non => unfold Rp at r; subst r; exact ⟨rfl, rfl⟩
  | bl b => unfold Rp at r; subst r; exact ⟨rfl, rfl⟩
  | int b => unfold Rp at r; subst r; exact ⟨rfl, rfl⟩
  | str b => unfold Rp at r; subst r; exact ⟨rfl, rfl⟩
  | _ => cases h
theorem RpL.flat {K : PySem.W.Frag} {F : Hp} : ∀ {ds : List D} {vs : List V}, ds.all D.flat = true → RpL K F ds vs → vs = ds.map D.toV ∧ vs.all flatV = true
  | [], vs, _, h => by unfold RpL at h; subst h; exact ⟨rfl, rfl⟩
  | d :: ds, vs, z, h => by
    unfold RpL at h
    obtain ⟨v, r, rfl, h1, h2⟩ := h
    rw [List.all_cons, Bool.and_eq_true] at z
    obtain ⟨e1, f1⟩ := h1.flat z.1
    obtain ⟨e2, f2⟩ := RpL.flat z.2 h2
    rw [List.map_cons, ← e1, ← e2, List.all_cons, f1, f2]
    exact ⟨rfl, rfl⟩
def D.items? : D → Option (List D)
  | .lst ds => some ds
  | .tup ds => some ds
  | _ => none
/-- x in xs, flat -/
def inF (x : D) (ds : List D) : Bool := inV x.toV (ds.map D.toV)
def inD (neg : Bool) (a b : D) : Option D := match b.items? with
  | some ds => if a.flat = true ∧ ds.all D.flat = true then some (.bl (if neg = true then !inF a ds else inF a ds)) else none
  | none => none
theorem sem_in {K : PySem.W.Frag} (neg : Bool) : RSem K (inD neg) (rIn K neg) := by
  intro a b c hc F H x y Q e r1 r2 q
  unfold inD at hc
  have key : ∀ ds vs p, b.items? = some ds → RpL K F ds vs → (SqL K H p vs ∨ SqT K H p vs) → y = .ref p → rIn K neg x y H Q := by
    intro ds vs p hb hr hs hy
    rw [hb] at hc
    dsimp only at hc
    split at hc
    · rename_i z
      cases hc
      obtain ⟨e1, f1⟩ := r1.flat z.1
      obtain ⟨e2, f2⟩ := hr.flat z.2
      refine ⟨p, vs, hy, hs, f1, f2, ?_⟩
      have : inF a ds = inV x vs := by unfold inF; rw [e1, e2]
      rw [← this]
      refine q F H _ (Nw.refl e) ?_
      unfold Rp
      rfl
    · cases hc
  cases b with
  | lst ds => unfold Rp at r2; obtain ⟨p, vs, rfl, h1, h2⟩ := r2; exact key ds vs p rfl h2 (.inl (SqL.of (e _ _ h1))) rfl
  | tup ds => unfold Rp at r2; obtain ⟨p, vs, rfl, h1, h2⟩ := r2; exact key ds vs p rfl h2 (.inr (same_t e h1)) rfl
  | _ => cases hc

/-! ### a subscript -/
def ixD : D → D → Option D
  | .tup ds, .int i => atI ds i
  | .lst ds, .int i => atI ds i
  | .scr ns, .int i => (atI ns i).map .int
  | .str z, .int i => if z.length ≤ sizeLine then (atI z.cps.toList i).map fun c => .str ⟨#[c]⟩ else none
  | _, _ => none
def rIxD (K : PySem.W.Frag) : R2 := fun x y H Q => rIxL K x y H Q ∨ rIxT K x y H Q ∨ rIxS x y H Q
theorem atI_map {α β : Type} (f : α → β) (xs : List α) (i : Int) : atI (xs.map f) i = (atI xs i).map f := by
  unfold atI
  rw [List.length_map]
  cases ixN xs.length i with
  | none => rfl
  | some j => show (xs.map f)[j]? = _; rw [List.getElem?_map]; rfl
theorem RpL.atI {K : PySem.W.Frag} {F : Hp} {ds : List D} {vs : List V} {i : Int} {d : D} (r : RpL K F ds vs) (h : atI ds i = some d) : ∃ v, atI vs i = some v ∧ Rp K F d v := by
  unfold L2.atI at h ⊢
  rw [r.len]
  cases e : ixN ds.length i with
  | none => rw [e] at h; cases h
  | some j =>
    rw [e] at h
    obtain ⟨v, h1, h2⟩ := r.get (show ds[j]? = some d from h)
    exact ⟨v, h1, h2⟩
theorem sem_ix {K : PySem.W.Frag} : RSem K ixD (rIxD K) := by
  intro a b c hc F H x y Q e r1 r2 q
  cases b with
  | int i =>
    unfold Rp at r2
    cases a with
    | tup ds =>
      unfold Rp at r1
      obtain ⟨p, vs, rfl, h1, h2⟩ := r1
      obtain ⟨v, z, r⟩ := h2.atI (show atI ds i = some c from hc)
      exact .inr (.inl ⟨p, vs, i, v, rfl, r2, same_t e h1, z, q F H _ (Nw.refl e) r⟩)
    | lst ds =>
      unfold Rp at r1
      obtain ⟨p, vs, rfl, h1, h2⟩ := r1
      obtain ⟨v, z, r⟩ := h2.atI (show atI ds i = some c from hc)
      exact .inl ⟨p, vs, i, v, rfl, r2, SqL.of (e _ _ h1), z, q F H _ (Nw.refl e) r⟩
    | scr ns =>
      unfold Rp at r1
      obtain ⟨p, rfl, h1⟩ := r1
      obtain ⟨n, z, rfl⟩ := Option.map_eq_some_iff.mp (show (atI ns i).map D.int = some c from hc)
      exact .inl ⟨p, _, i, .int n, rfl, r2, e.seq h1, by rw [atI_map, z]; rfl, q F H _ (Nw.refl e) (by unfold Rp; rfl)⟩
    | str z =>
      unfold Rp at r1
      have hc : (if z.length ≤ sizeLine then (atI z.cps.toList i).map fun c => D.str ⟨#[c]⟩ else none) = some c := hc
      split at hc
      · rename_i hz
        obtain ⟨n, z1, rfl⟩ := Option.map_eq_some_iff.mp hc
        exact .inr (.inr ⟨z, i, n, r1, r2, hz, z1, q F H _ (Nw.refl e) (by unfold Rp; rfl)⟩)
      · cases hc
    | _ => simp [ixD] at hc
  | _ => cases a <;> simp [ixD] at hc
theorem ix_all {X : Cx} : IxR X (rIxD X.K) := IxR.or ix_list (IxR.or ix_tup ix_str)
end Cd

set_option Elab.async false
set_option linter.all false
set_option autoImplicit false
set_option maxRecDepth 100000
set_option maxHeartbeats 1000000
/-! Core4: values that may be owned, calls of defs, statements. -/
namespace Cd
open PySem PySem.Spec L2

/-- the value v is r: data, or an object of its own that no slot owns -/
def VOk (K : PySem.W.Frag) (H : Hp) (σ : St) (ρ : Rho) (F' H' : Hp) (σ' : St) (ρ' : Rho) : Val → V → Prop
  | .dat d, v => Rp K F' d v
  | .own false m, v => ∃ p o, v = .ref p ∧ (H p = none ∨ Ow σ ρ p) ∧ F' p = none ∧ H' p = some o ∧ MRp K F' m o ∧ ¬ Ow σ' ρ' p
  | _, _ => False
def denV (K : PySem.W.Frag) (mg : Str → Option Value) (E : XK) (m : SM Val) : TE := fun σ H Q => ∃ F ρ, Rep K F H σ ρ ∧ match m ρ with
  | .ok r ρ' => ∀ F' H' v, Stp K F H σ ρ F' H' σ ρ' → VOk K H σ ρ F' H' σ ρ' r v → Q v H'
  | .exc x ρ' => ExcE K mg E F H σ ρ x ρ'
  | .bad => False
abbrev DV (X : Cx) (E : XK) (m : SM Val) : TE := denV X.K X.mg E m

/-- frozen -/
def Val.frz? : Val → Option D
  | .dat d => some d
  | .own false m => some m.frz
  | _ => none
def eFrz (m : SM Val) : SM D := SM.bind m fun r => SM.opt r.frz?
/-- data as a value -/
def vDat (m : SM D) : SM Val := SM.bind m fun d => SM.pure (.dat d)

section
variable {K : PySem.W.Frag} {F H : Hp} {σ σ' : St} {ρ ρ' : Rho} {F' H' : Hp}
/-- an object that no slot owns is frozen -/
theorem Stp.freezeV {m : MO} {p : Addr} {o : HO} (s : Stp K F H σ ρ F' H' σ' ρ') (h0 : H p = none ∨ Ow σ ρ p) (h1 : F' p = none) (h2 : H' p = some o) (h3 : MRp K F' m o) (h4 : ¬ Ow σ' ρ' p) :
    Stp K F H σ ρ (upd F' p o) H' σ' ρ' ∧ Rp K (upd F' p o) m.frz (.ref p) := by
  have ex : Same F' (upd F' p o) := fun b u q => by rw [upd_ne (ne_of_none q h1)]; exact q
  refine ⟨⟨⟨s.rep.len, fun b u q => ?_, s.rep.tab, nt_upd s.rep.nt h3.nt, fun i d q => let ⟨v, e, r⟩ := s.rep.dat i d q; ⟨v, e, r.mono ex⟩, fun i b n q => ?_, s.rep.dis⟩, s.ext.trans ex, s.keep, s.thr, fun b u q z => ?_, s.own, s.par, s.up⟩, (h3.mono ex).frz upd_same⟩
  · by_cases hb : b = p
    · subst hb; rw [upd_same] at q; cases q; exact h2
    · rw [upd_ne hb] at q; exact s.rep.sub b u q
  · obtain ⟨a, u, e1, e2, e3, r⟩ := s.rep.own i b n q
    refine ⟨a, u, e1, ?_, e3, r.mono ex⟩
    rw [upd_ne, e2]
    rintro rfl
    exact h4 ⟨i, b, n, q, e1⟩
  · by_cases hb : b = p
    · subst hb; exact h0
    · rw [upd_ne hb] at q; exact s.frz b u q z
theorem VOk.frz {r : Val} {v : V} {d : D} (s : Stp K F H σ ρ F' H' σ' ρ') (h : VOk K H σ ρ F' H' σ' ρ' r v) (e : r.frz? = some d) : ∃ F2, Stp K F H σ ρ F2 H' σ' ρ' ∧ Rp K F2 d v := by
  cases r with
  | un => cases e
  | dat d' => cases e; exact ⟨F', s, h⟩
  | own p m =>
    cases p with
    | true => cases e
    | false =>
      cases e
      obtain ⟨p, o, rfl, h0, h1, h2, h3, h4⟩ := h
      obtain ⟨s2, r2⟩ := s.freezeV h0 h1 h2 h3 h4
      exact ⟨_, s2, r2⟩
end
section
variable {X : Cx} {E : XK} {e : Expr}
theorem eFrz_use {m : SM Val} {σ : St} {H : Hp} {Q : VK} (h : DE X E (eFrz m) σ H Q) : DV X E m σ H Q := by
  obtain ⟨F, ρ, R, h⟩ := h
  refine ⟨F, ρ, R, ?_⟩
  cases q : m ρ with
  | bad => rw [show eFrz m ρ = .bad by unfold eFrz SM.bind; rw [q]] at h; exact h
  | exc x ρx => rw [show eFrz m ρ = .exc x ρx by unfold eFrz SM.bind; rw [q]] at h; exact h
  | ok r ρ' =>
    have e : eFrz m ρ = SM.opt r.frz? ρ' := by unfold eFrz SM.bind; rw [q]
    cases z : r.frz? with
    | none => rw [e, z] at h; exact h.elim
    | some d =>
      rw [e, z] at h
      intro F' H' v s w
      obtain ⟨F2, s2, r2⟩ := w.frz s z
      exact h F2 H' v s2 r2
theorem e_frz {m : SM Val} (h : PE X e (DV X E m)) : PE X e (DE X E (eFrz m)) := PE.wk h fun σ H Q h => eFrz_use h
theorem vDat_use {m : SM D} {σ : St} {H : Hp} {Q : VK} (h : DV X E (vDat m) σ H Q) : DE X E m σ H Q := by
  obtain ⟨F, ρ, R, h⟩ := h
  refine ⟨F, ρ, R, ?_⟩
  unfold vDat SM.bind at h
  revert h
  cases m ρ with
  | bad => exact fun h => h
  | exc x ρx => exact fun h => h
  | ok d ρ' => exact fun h F' H' v s r => h F' H' v s r
theorem e_vdat {m : SM D} (h : PE X e (DE X E m)) : PE X e (DV X E (vDat m)) := PE.wk h fun σ H Q h => vDat_use h
end

/-- arguments that no one may take for one's own -/
def noOwn (ρ : Rho) : Prop := ∀ (i : Nat) (m : MO), ρ[i]? ≠ some (Val.own false m)
/-! ### a def's promise, by its function of the arguments -/
abbrev Fn := Rho → Res Val
def spOf (K : PySem.W.Frag) (mg : Str → Option Value) (g : Fn) : Sp := fun vs H Q E => ∃ F ρ, Rep K F H (vs.map some) ρ ∧ noOwn ρ ∧ match g ρ with
  | .ok r ρ' => ∀ F' H' v, Stp K F H (vs.map some) ρ F' H' (vs.map some) ρ' → VOk K H (vs.map some) ρ F' H' (vs.map some) ρ' r v → Q v H'
  | .exc x ρ' => ∀ cls d F' H', XOk K mg F' H' x cls d → Stp K F H (vs.map some) ρ F' H' (vs.map some) ρ' → E cls d H'
  | .bad => False

inductive Arg where
  | d (d : D) | o (i : Nat)
abbrev RA (K : PySem.W.Frag) : Rl Arg V := fun F σ a v => match a with
  | .d d => Rp K F d v
  | .o i => σ[i]? = some (some v)
def RAs (K : PySem.W.Frag) : Rl (List Arg) (List V) := fun F σ as vs => match as with
  | [] => vs = []
  | a :: r => ∃ v w, vs = v :: w ∧ RA K F σ a v ∧ RAs K F σ r w
theorem RAs.get {K : PySem.W.Frag} {F : Hp} {σ : St} : ∀ {as : List Arg} {vs : List V} {j : Nat} {a : Arg}, RAs K F σ as vs → as[j]? = some a → ∃ v, vs[j]? = some v ∧ RA K F σ a v
  | [], _, j, a, _, e => by simp at e
  | _ :: _, _, 0, a, h, e => by
    unfold RAs at h
    obtain ⟨v, w, rfl, h1, _⟩ := h
    simp at e; subst e
    exact ⟨v, rfl, h1⟩
  | _ :: _, _, j + 1, a, h, e => by
    unfold RAs at h
    obtain ⟨v, w, rfl, _, h2⟩ := h
    obtain ⟨u, e1, e2⟩ := RAs.get (j := j) h2 (by simpa using e)
    exact ⟨u, by simpa using e1, e2⟩
theorem RAs.len {K : PySem.W.Frag} {F : Hp} {σ : St} : ∀ {as : List Arg} {vs : List V}, RAs K F σ as vs → vs.length = as.length
  | [], _, h => by unfold RAs at h; subst h; rfl
  | _ :: _, _, h => by
    unfold RAs at h
    obtain ⟨v, w, rfl, _, h2⟩ := h
    rw [List.length_cons, List.length_cons, RAs.len h2]
theorem RAs.mono {K : PySem.W.Frag} {F F' : Hp} {σ : St} (e : Same F F') : ∀ {as : List Arg} {vs : List V}, RAs K F σ as vs → RAs K F' σ as vs
  | [], _, h => h
  | a :: _, _, h => by
    unfold RAs at h ⊢
    obtain ⟨v, w, rfl, h1, h2⟩ := h
    refine ⟨v, w, rfl, ?_, RAs.mono e h2⟩
    cases a with
    | d d => exact Rp.mono e h1
    | o i => exact h1
/-- the callee's slots -/
def inArgs (ρ : Rho) : List Arg → Option Rho
  | [] => some []
  | .d d :: r => (inArgs ρ r).map (Val.dat d :: ·)
  | .o i :: r => match ρ[i]? with
    | some (.own _ m) => (inArgs ρ r).map (Val.own true m :: ·)
    | _ => none
def setOwn (ρ : Rho) (i : Nat) (m : MO) : Rho := match ρ[i]? with
  | some (.own p _) => ρ.set i (.own p m)
  | _ => ρ
/-- the caller's slots behind a call -/
def outArgs : Rho → List Arg → Rho → Rho
  | ρ, .d _ :: r, _ :: ps => outArgs ρ r ps
  | ρ, .o i :: r, w :: ps => match w with
    | .own _ m => outArgs (setOwn ρ i m) r ps
    | _ => outArgs ρ r ps
  | ρ, _, _ => ρ
def ownIx : List Arg → List Nat
  | [] => []
  | .d _ :: r => ownIx r
  | .o i :: r => i :: ownIx r
/-- f(..) -/
def eCall (g : Fn) (ms : SM (List Arg)) : SM Val := SM.bind ms fun as ρ => if (ownIx as).Nodup then match inArgs ρ as with
    | some ρc => match g ρc with
      | .ok r ρc' => .ok r (outArgs ρ as ρc')
      | .exc x ρc' => .exc x (outArgs ρ as ρc')
      | .bad => .bad
    | none => .bad
  else .bad

theorem inArgs_get {ρ : Rho} : ∀ {as : List Arg} {ρc : Rho}, inArgs ρ as = some ρc → ρc.length = as.length ∧ ∀ (j : Nat) (w : Val), ρc[j]? = some w → (∃ d, as[j]? = some (.d d) ∧ w = .dat d) ∨ ∃ i p m, as[j]? = some (.o i) ∧ ρ[i]? = some (Val.own p m) ∧ w = .own true m
  | [], ρc, h => by
    cases h
    exact ⟨rfl, fun j w e => by simp at e⟩
  | .d d :: r, ρc, h => by
    unfold inArgs at h
    obtain ⟨t, h1, rfl⟩ := Option.map_eq_some_iff.mp h
    obtain ⟨l, g⟩ := inArgs_get h1
    refine ⟨by simp [l], fun j w e => ?_⟩
    cases j with
    | zero => simp at e; subst e; exact .inl ⟨d, rfl, rfl⟩
    | succ j => exact (g j w (by simpa using e)).imp (fun ⟨d, a, b⟩ => ⟨d, by simpa using a, b⟩) fun ⟨i, p, m, a, b, c⟩ => ⟨i, p, m, by simpa using a, b, c⟩
  | .o i :: r, ρc, h => by
    unfold inArgs at h
    split at h
    · rename_i p m hi
      obtain ⟨t, h1, rfl⟩ := Option.map_eq_some_iff.mp h
      obtain ⟨l, g⟩ := inArgs_get h1
      refine ⟨by simp [l], fun j w e => ?_⟩
      cases j with
      | zero => simp at e; subst e; exact .inr ⟨i, p, m, rfl, hi, rfl⟩
      | succ j => exact (g j w (by simpa using e)).imp (fun ⟨d, a, b⟩ => ⟨d, by simpa using a, b⟩) fun ⟨i, p, m, a, b, c⟩ => ⟨i, p, m, by simpa using a, b, c⟩
    · cases h
theorem ownIx_mem : ∀ {as : List Arg} {j i : Nat}, as[j]? = some (.o i) → i ∈ ownIx as
  | [], j, i, e => by simp at e
  | .d d :: r, 0, i, e => by simp at e
  | .d d :: r, j + 1, i, e => ownIx_mem (as := r) (j := j) (by simpa using e)
  | .o k :: r, 0, i, e => by simp at e; subst e; exact List.mem_cons_self
  | .o k :: r, j + 1, i, e => List.mem_cons_of_mem _ (ownIx_mem (as := r) (j := j) (by simpa using e))
theorem ownIx_inj : ∀ {as : List Arg} {j k i : Nat}, (ownIx as).Nodup → as[j]? = some (.o i) → as[k]? = some (.o i) → j = k
  | [], j, k, i, _, e, _ => by simp at e
  | .d d :: r, 0, _, i, _, e, _ => by simp at e
  | .d d :: r, _, 0, i, _, _, e => by simp at e
  | .d d :: r, j + 1, k + 1, i, n, e, e' => congrArg (· + 1) (ownIx_inj (as := r) n (by simpa using e) (by simpa using e'))
  | .o q :: r, 0, 0, i, _, _, _ => rfl
  | .o q :: r, 0, k + 1, i, n, e, e' => by
    simp at e; subst e
    exact absurd (ownIx_mem (as := r) (j := k) (by simpa using e')) (List.nodup_cons.mp n).1
  | .o q :: r, j + 1, 0, i, n, e, e' => by
    simp at e'; subst e'
    exact absurd (ownIx_mem (as := r) (j := j) (by simpa using e)) (List.nodup_cons.mp n).1
  | .o q :: r, j + 1, k + 1, i, n, e, e' => congrArg (· + 1) (ownIx_inj (as := r) (List.nodup_cons.mp n).2 (by simpa using e) (by simpa using e'))
theorem setOwn_get {ρ : Rho} {i : Nat} {m : MO} : (setOwn ρ i m).length = ρ.length ∧ ∀ j : Nat, (j ≠ i → (setOwn ρ i m)[j]? = ρ[j]?) ∧ ((setOwn ρ i m)[i]? = match ρ[i]? with
    | some (.own p _) => some (.own p m)
    | w => w) := by
  unfold setOwn
  split
  · rename_i p m0 h
    have hi : i < ρ.length := (List.getElem?_eq_some_iff.mp h).1
    refine ⟨by simp, fun j => ⟨fun hj => List.getElem?_set_ne (Ne.symm hj), ?_⟩⟩
    exact List.getElem?_set_self hi
  · rename_i h
    refine ⟨rfl, fun j => ⟨fun _ => rfl, ?_⟩⟩
    cases q : ρ[i]? with
    | none => rfl
    | some w =>
      cases w with
      | own p m0 => exact absurd q (h p m0)
      | un => rfl
      | dat d => rfl
/-- what outArgs leaves -/
theorem outArgs_get : ∀ {as : List Arg} {ρ ps : Rho}, (∀ (j i : Nat), as[j]? = some (Arg.o i) → ∃ q m, ps[j]? = some (Val.own q m)) →
    (outArgs ρ as ps).length = ρ.length ∧ ∀ i : Nat, (∀ p m, (outArgs ρ as ps)[i]? = some (Val.own p m) → ∃ m0, ρ[i]? = some (Val.own p m0) ∧ ((m = m0 ∧ ∀ j : Nat, as[j]? ≠ some (Arg.o i)) ∨ ∃ (j : Nat) (q : Bool), as[j]? = some (Arg.o i) ∧ ps[j]? = some (Val.own q m))) ∧
      (∀ p m0, ρ[i]? = some (Val.own p m0) → ∃ m, (outArgs ρ as ps)[i]? = some (Val.own p m)) ∧ (∀ d, (outArgs ρ as ps)[i]? = some (Val.dat d) → ρ[i]? = some (Val.dat d))
  | [], ρ, ps, h => by
    have e : outArgs ρ [] ps = ρ := by unfold outArgs; rfl
    rw [e]
    exact ⟨rfl, fun i => ⟨fun p m q => ⟨m, q, .inl ⟨rfl, fun j => by simp⟩⟩, fun p m q => ⟨m, q⟩, fun d q => q⟩⟩
  | .d d :: r, ρ, [], h => by
    have e : outArgs ρ (.d d :: r) [] = ρ := by unfold outArgs; rfl
    rw [e]
    have no : ∀ (i j : Nat), (Arg.d d :: r)[j]? ≠ some (Arg.o i) := fun i j q => by
      obtain ⟨_, _, z⟩ := h j i q
      simp at z
    exact ⟨rfl, fun i => ⟨fun p m q => ⟨m, q, .inl ⟨rfl, no i⟩⟩, fun p m q => ⟨m, q⟩, fun d q => q⟩⟩
  | .d d :: r, ρ, w :: ps, h => by
    have e : outArgs ρ (.d d :: r) (w :: ps) = outArgs ρ r ps := by rw [outArgs]
    rw [e]
    obtain ⟨l, g⟩ := outArgs_get (as := r) (ρ := ρ) (ps := ps) fun j i q => by simpa using h (j + 1) i (by simpa using q)
    refine ⟨l, fun i => ⟨fun p m q => ?_, (g i).2.1, (g i).2.2⟩⟩
    obtain ⟨m0, a, b⟩ := (g i).1 p m q
    refine ⟨m0, a, b.imp (fun ⟨x, y⟩ => ⟨x, fun j => ?_⟩) fun ⟨j, q, x, y⟩ => ⟨j + 1, q, by simpa using x, by simpa using y⟩⟩
    cases j with
    | zero => simp
    | succ j => simpa using y j
  | .o k :: r, ρ, [], h => by
    obtain ⟨_, _, z⟩ := h 0 k rfl
    simp at z
  | .o k :: r, ρ, w :: ps, h => by
    obtain ⟨q0, m1, z⟩ := h 0 k rfl
    have z : w = .own q0 m1 := by simpa using z
    subst z
    have e : outArgs ρ (.o k :: r) (Val.own q0 m1 :: ps) = outArgs (setOwn ρ k m1) r ps := by rw [outArgs]
    rw [e]
    obtain ⟨l, g⟩ := outArgs_get (as := r) (ρ := setOwn ρ k m1) (ps := ps) fun j i q => by simpa using h (j + 1) i (by simpa using q)
    obtain ⟨l', s⟩ := setOwn_get (ρ := ρ) (i := k) (m := m1)
    refine ⟨l.trans l', fun i => ⟨fun p m q => ?_, fun p m0 q => ?_, fun d q => ?_⟩⟩
    · obtain ⟨m0, a, b⟩ := (g i).1 p m q
      by_cases hi : i = k
      · subst hi
        rw [(s i).2] at a
        have : ∃ m2, ρ[i]? = some (Val.own p m2) ∧ m0 = m1 := by
          split at a
          · rename_i p' m' hh; cases a; exact ⟨_, hh, rfl⟩
          · rename_i hh; exact absurd a (hh p m0)
        obtain ⟨m2, a2, rfl⟩ := this
        refine ⟨m2, a2, .inr ?_⟩
        rcases b with ⟨rfl, _⟩ | ⟨j, q', x, y⟩
        · exact ⟨0, q0, rfl, rfl⟩
        · exact ⟨j + 1, q', by simpa using x, by simpa using y⟩
      · rw [(s i).1 hi] at a
        refine ⟨m0, a, b.imp (fun ⟨x, y⟩ => ⟨x, fun j => ?_⟩) fun ⟨j, q, x, y⟩ => ⟨j + 1, q, by simpa using x, by simpa using y⟩⟩
        cases j with
        | zero => simp; exact fun z => hi z.symm
        | succ j => simpa using y j
    · by_cases hi : i = k
      · subst hi
        refine (g i).2.1 p m1 ?_
        rw [(s i).2, q]
      · exact (g i).2.1 p m0 (by rw [(s i).1 hi]; exact q)
    · have a := (g i).2.2 d q
      by_cases hi : i = k
      · subst hi
        rw [(s i).2] at a
        split at a
        · cases a
        · exact a
      · rwa [(s i).1 hi] at a

section
variable {K : PySem.W.Frag} {F H F' H' : Hp} {σ : St} {ρ ρc ρc' : Rho} {as : List Arg} {vs : List V}
/-- the callee's start -/
theorem Rep.callee (R : Rep K F H σ ρ) (nd : (ownIx as).Nodup) (hi : inArgs ρ as = some ρc) (r : RAs K F σ as vs) : Rep K F H (vs.map some) ρc := by
  obtain ⟨l, g⟩ := inArgs_get hi
  have own : ∀ (j : Nat) (p : Bool) (m : MO), ρc[j]? = some (Val.own p m) → ∃ i q, as[j]? = some (Arg.o i) ∧ ρ[i]? = some (Val.own q m) ∧ (vs.map some)[j]? = σ[i]? := fun j p m e => by
    rcases g j _ e with ⟨d, _, z⟩ | ⟨i, q, m', h1, h2, z⟩
    · cases z
    · cases z
      obtain ⟨v, e1, e2⟩ := r.get h1
      refine ⟨i, q, h1, h2, ?_⟩
      rw [List.getElem?_map, e1]
      exact (show σ[i]? = some (some v) from e2).symm
  refine ⟨by rw [l, List.length_map, r.len], R.sub, R.tab, R.nt, fun j d e => ?_, fun j p m e => ?_, fun j k a p q m n h1 h2 h3 h4 => ?_⟩
  · rcases g j _ e with ⟨d', h1, z⟩ | ⟨i, q, m', h1, h2, z⟩
    · cases z
      obtain ⟨v, e1, e2⟩ := r.get h1
      exact ⟨v, by rw [List.getElem?_map, e1]; rfl, e2⟩
    · cases z
  · obtain ⟨i, q, h1, h2, h3⟩ := own j p m e
    obtain ⟨a, o, e1, e2, e3, r⟩ := R.own i q m h2
    exact ⟨a, o, h3.trans e1, e2, e3, r⟩
  · obtain ⟨i, q', x1, x2, x3⟩ := own j p m h1
    obtain ⟨i', q'', y1, y2, y3⟩ := own k q n h2
    have := R.dis i i' a _ _ _ _ x2 y2 (x3.symm.trans h3) (y3.symm.trans h4)
    subst this
    exact ownIx_inj nd x1 y1
theorem Ow.caller (hi : inArgs ρ as = some ρc) (r : RAs K F σ as vs) {b : Addr} (w : Ow (vs.map some) ρc b) : Ow σ ρ b := by
  obtain ⟨j, p, m, e1, e2⟩ := w
  rcases (inArgs_get hi).2 j _ e1 with ⟨d, _, z⟩ | ⟨i, q, m', h1, h2, z⟩
  · cases z
  · obtain ⟨v, e3, e4⟩ := r.get h1
    rw [List.getElem?_map, e3] at e2
    cases e2
    exact ⟨i, q, m', h2, e4⟩
/-- behind the call -/
theorem Stp.called (R : Rep K F H σ ρ) (nd : (ownIx as).Nodup) (hi : inArgs ρ as = some ρc) (r : RAs K F σ as vs) (s : Stp K F H (vs.map some) ρc F' H' (vs.map some) ρc') : Stp K F H σ ρ F' H' σ (outArgs ρ as ρc') := by
  obtain ⟨l, g⟩ := inArgs_get hi
  have post : ∀ (j i : Nat), as[j]? = some (Arg.o i) → ∃ q m, ρc'[j]? = some (Val.own q m) := fun j i e => by
    have hj : j < ρc.length := by rw [l]; exact (List.getElem?_eq_some_iff.mp e).1
    rcases g j _ (List.getElem?_eq_getElem hj) with ⟨d, h1, _⟩ | ⟨i', q, m', h1, h2, z⟩
    · rw [e] at h1; cases h1
    · obtain ⟨⟨m2, h3⟩, _⟩ := s.par j m' (by rw [List.getElem?_eq_getElem hj, z])
      exact ⟨true, m2, h3⟩
  obtain ⟨ol, og⟩ := outArgs_get (as := as) (ρ := ρ) (ps := ρc') post
  have slot : ∀ (i : Nat) (p : Bool) (m : MO), (outArgs ρ as ρc')[i]? = some (Val.own p m) → ∃ m0, ρ[i]? = some (Val.own p m0) := fun i p m e => let ⟨m0, a, _⟩ := (og i).1 p m e; ⟨m0, a⟩
  refine ⟨⟨ol.trans R.len, s.rep.sub, s.rep.tab, s.rep.nt, fun i d e => ?_, fun i p m e => ?_, fun i k a p q m n h1 h2 h3 h4 => ?_⟩, s.ext, fun b o h n nt => s.keep b o h (fun w => n (w.caller hi r)) nt, s.thr, fun b o h1 h2 => (s.frz b o h1 h2).imp id fun w => w.caller hi r, fun b ⟨i, p, m, e1, e2⟩ => ?_, fun i m e => ?_, fun i m e => slot i true m e⟩
  · obtain ⟨v, e1, e2⟩ := R.dat i d ((og i).2.2 d e)
    exact ⟨v, e1, e2.mono s.ext⟩
  · obtain ⟨m0, h1, h2⟩ := (og i).1 p m e
    obtain ⟨a, o, e1, e2, e3, rr⟩ := R.own i p m0 h1
    rcases h2 with ⟨rfl, no⟩ | ⟨j, q, h3, h4⟩
    · have nw : ¬ Ow (vs.map some) ρc a := fun ⟨j, p', m', x1, x2⟩ => by
        rcases g j _ x1 with ⟨d, _, z⟩ | ⟨i', q', m'', y1, y2, z⟩
        · cases z
        · obtain ⟨v, e4, e5⟩ := r.get y1
          rw [List.getElem?_map, e4] at x2
          cases x2
          have := R.dis i i' a _ _ _ _ h1 y2 e1 e5
          subst this
          exact no j y1
      refine ⟨a, o, e1, ?_, s.keep a o e3 nw rr.nt, rr.mono s.ext⟩
      cases z : F' a with
      | none => rfl
      | some u =>
        rcases s.frz a u z e2 with y | y
        · rw [e3] at y; cases y
        · exact (nw y).elim
    · obtain ⟨v, e4, e5⟩ := r.get h3
      have e5 : σ[i]? = some (some v) := e5
      obtain ⟨a', o', x1, x2, x3, x4⟩ := s.rep.own j q m h4
      rw [List.getElem?_map, e4] at x1
      cases x1
      exact ⟨a', o', e5, x2, x3, x4⟩
  · obtain ⟨m0, x1⟩ := slot i p m h1
    obtain ⟨n0, y1⟩ := slot k q n h2
    exact R.dis i k a _ _ _ _ x1 y1 h3 h4
  · obtain ⟨m0, x1⟩ := slot i p m e1
    exact .inl ⟨i, p, m0, x1, e2⟩
  · exact ⟨(og i).2.1 true m e, rfl⟩
end
end Cd

set_option Elab.async false
set_option linter.all false
set_option autoImplicit false
set_option maxRecDepth 100000
set_option maxHeartbeats 1000000
/-! Core5: calls of defs, statements. -/
namespace Cd
open PySem PySem.Spec L2

section
variable {α β : Type} {K : PySem.W.Frag} {mg : Str → Option Value} {E : XK} {R : Rl α β} {F H F1 H1 F' H' : Hp} {ρ ρ1 ρ' : Rho} {σ σ1 σ' : St} {Q : VK}
theorem VOk.back {r : Val} {v : V} (s : Stp K F H σ ρ F1 H1 σ1 ρ1) (h : VOk K H1 σ1 ρ1 F' H' σ' ρ' r v) : VOk K H σ ρ F' H' σ' ρ' r v := by
  cases r with
  | un => exact h
  | dat d => exact h
  | own p m =>
    cases p with
    | true => exact h
    | false =>
      obtain ⟨p, o, e, h0, h1⟩ := h
      refine ⟨p, o, e, ?_, h1⟩
      rcases h0 with h0 | h0
      · exact .inl (s.thr p h0)
      · exact (s.own p h0).symm
def denVAt (K : PySem.W.Frag) (mg : Str → Option Value) (E : XK) (F : Hp) (ρ : Rho) (m : SM Val) (σ : St) (H : Hp) (Q : VK) : Prop := Rep K F H σ ρ ∧ match m ρ with
  | .ok r ρ' => ∀ F' H' v, Stp K F H σ ρ F' H' σ ρ' → VOk K H σ ρ F' H' σ ρ' r v → Q v H'
  | .exc x ρ' => ExcE K mg E F H σ ρ x ρ'
  | .bad => False
theorem denVAt.of {m : SM Val} (h : denVAt K mg E F ρ m σ H Q) : denV K mg E m σ H Q := ⟨F, ρ, h⟩
theorem denV.bind {m : SM α} {k : α → SM Val} (h : denV K mg E (SM.bind m k) σ H Q) : den K mg E R m σ H (fun b H1 => ∃ F1 ρ1 a, R F1 σ a b ∧ denVAt K mg E F1 ρ1 (k a) σ H1 Q) := by
  obtain ⟨F, ρ, rep, h⟩ := h
  refine ⟨F, ρ, rep, ?_⟩
  unfold SM.bind at h
  revert h
  cases e : m ρ with
  | bad => exact fun h => h
  | exc x ρx => exact fun h => h
  | ok a ρ1 =>
    refine fun h F1 H1 b s r => ⟨F1, ρ1, a, r, s.rep, ?_⟩
    dsimp only at h
    cases q : k a ρ1 with
    | bad => rw [q] at h; exact h
    | exc x ρx => rw [q] at h; exact h.back s
    | ok c ρ2 => rw [q] at h; exact fun F2 H2 d s2 r2 => h F2 H2 d (s.trans s2) (r2.back s)
/-- a call's reading, behind its arguments -/
theorem call_use {g : Fn} {as : List Arg} {vs : List V} (R : Rep K F H σ ρ) (r : RAs K F σ as vs) (h : denVAt K mg E F ρ (fun ρ => if (ownIx as).Nodup then match inArgs ρ as with
    | some ρc => match g ρc with
      | .ok r ρc' => .ok r (outArgs ρ as ρc')
      | .exc x ρc' => .exc x (outArgs ρ as ρc')
      | .bad => .bad
    | none => .bad
  else .bad) σ H Q) : spOf K mg g vs H Q E := by
  have h := h.2
  dsimp only at h
  by_cases nd : (ownIx as).Nodup
  · rw [if_pos nd] at h
    cases hi : inArgs ρ as with
    | none => rw [hi] at h; exact h.elim
    | some ρc =>
      rw [hi] at h
      dsimp only at h
      refine ⟨F, ρc, R.callee nd hi r, fun j m z => ?_, ?_⟩
      · rcases (inArgs_get hi).2 j _ z with ⟨d, _, z⟩ | ⟨i, q, m', h1, h2, z⟩ <;> cases z
      cases hg : g ρc with
      | bad => rw [hg] at h; exact h
      | exc x ρx => rw [hg] at h; exact fun cls d F' H' h1 h2 => h cls d F' H' h1 (Stp.called R nd hi r h2)
      | ok c ρc' =>
        rw [hg] at h
        intro F' H' v s w
        have s' := Stp.called R nd hi r s
        refine h F' H' v s' ?_
        cases c with
        | un => exact w
        | dat d => exact w
        | own p m =>
          cases p with
          | true => exact w
          | false =>
            obtain ⟨p, o, e, h0, h1, h2, h3, h4⟩ := w
            have ho : ¬ Ow (vs.map some) ρc p := fun ⟨j, q, m', x1, x2⟩ => by
              rcases (inArgs_get hi).2 j _ x1 with ⟨d, _, z⟩ | ⟨i, q', m'', y1, y2, z⟩
              · cases z
              · cases z
                obtain ⟨⟨m2, z1⟩, _⟩ := s.par j m' x1
                exact h4 ⟨j, true, m2, z1, x2⟩
            have hp : H p = none := h0.elim id fun z => (ho z).elim
            refine ⟨p, o, e, .inl hp, h1, h2, h3, fun z => ?_⟩
            rcases s'.own p z with y | y
            · obtain ⟨_, u, q⟩ := R.ow_some y
              rw [q] at hp; cases hp
            · obtain ⟨i, q, m', z1, z2⟩ := z
              -- the slots of the caller's own are the same ones as before
              obtain ⟨a, u, e1, e2, e3, _⟩ := s'.rep.own i q m' z1
              have : ∃ m0, ρ[i]? = some (Val.own q m0) := by
                have post : ∀ (j i : Nat), as[j]? = some (Arg.o i) → ∃ q m, ρc'[j]? = some (Val.own q m) := fun j i e => by
                  have hj : j < ρc.length := by rw [(inArgs_get hi).1]; exact (List.getElem?_eq_some_iff.mp e).1
                  rcases (inArgs_get hi).2 j _ (List.getElem?_eq_getElem hj) with ⟨d, h1, _⟩ | ⟨i', q, m', h1, h2, z⟩
                  · rw [e] at h1; cases h1
                  · obtain ⟨⟨m2, h3⟩, _⟩ := s.par j m' (by rw [List.getElem?_eq_getElem hj, z])
                    exact ⟨true, m2, h3⟩
                obtain ⟨m0, z3, _⟩ := ((outArgs_get (ρ := ρ) post).2 i).1 q m' z1
                exact ⟨m0, z3⟩
              obtain ⟨m0, z3⟩ := this
              obtain ⟨_, u2, q2⟩ := R.ow_some (b := p) ⟨i, q, m0, z3, z2⟩
              rw [q2] at hp; cases hp
  · rw [if_neg nd] at h; exact h.elim
end

/-! ### arguments -/
abbrev DA (X : Cx) (E : XK) (ms : SM (List Arg)) : TA := den X.K X.mg E (RAs X.K) ms
def gNilA : SM (List Arg) := SM.pure []
def gD (m : SM D) (n : SM (List Arg)) : SM (List Arg) := SM.bind m fun d => SM.bind n fun as => SM.pure (.d d :: as)
def gO (i : Nat) (n : SM (List Arg)) : SM (List Arg) := fun ρ => match ρ[i]? with
  | some (.own _ _) => SM.bind n (fun as => SM.pure (.o i :: as)) ρ
  | _ => .bad
section
variable {X : Cx} {E : XK} {e : Expr} {es : List Expr} {pos p : Pos} {m : SM D} {ms : SM (List Arg)} {x : Str}
theorem g_nil : PA X [] (DA X E gNilA) := PA.wk pa_nil fun σ H Q ⟨F, ρ, h⟩ => h.pure0 (by unfold RAs; rfl)
theorem g_d (h : PE X e (DE X E m)) (k : PA X es (DA X E ms)) (hs : starEach (e :: es) X.env = (false, eval e X.env) :: starEach es X.env := by rfl) : PA X (e :: es) (DA X E (gD m ms)) := PA.wk (pa_cons h k hs) fun σ H Q h =>
  (den.bind (R := RD X.K) h).mono fun x H1 ⟨F1, ρ1, d1, r1, q1⟩ => ((denAt.bind (R := RAs X.K) q1).mono fun y H2 ⟨F2, ρ2, d2, r2, ex, q2⟩ => q2.pure0 (by unfold RAs; exact ⟨x, y, rfl, Rp.mono ex r1, r2⟩)).of
theorem g_o (i : Nat) (hN : X.N[i]? = some x) (hv : Vis X.env.scope x) (k : PA X es (DA X E ms)) (hd : (x == ("__debug__" : Str)) = false := by decide) (hcd : (x == ("__classdict__" : Str)) = false := by decide) (hs : starEach (.Name x pos :: es) X.env = (false, eval (.Name x pos) X.env) :: starEach es X.env := by rfl) :
    PA X (.Name x pos :: es) (DA X E (gO i ms)) := PA.wk (pa_cons (pe_var hN hv hd hcd) k hs) fun σ H Q ⟨F, ρ, R, h⟩ => by
  have e : ∃ q mo, ρ[i]? = some (Val.own q mo) ∧ gO i ms ρ = SM.bind ms (fun as => SM.pure (.o i :: as)) ρ := by
    unfold gO at h ⊢
    cases z : ρ[i]? with
    | none => rw [z] at h; exact h.elim
    | some w =>
      rw [z] at h
      cases w with
      | own q mo => exact ⟨q, mo, rfl, rfl⟩
      | un => exact h.elim
      | dat d => exact h.elim
  obtain ⟨q, mo, e1, e2⟩ := e
  rw [e2] at h
  obtain ⟨a, o, z1, z2, z3, _⟩ := R.own i q mo e1
  refine ⟨_, z1, ?_⟩
  exact (denAt.bind (R := RAs X.K) (show denAt X.K X.mg E (RAs X.K) F ρ (SM.bind ms fun as => SM.pure (.o i :: as)) σ H _ from ⟨R, h⟩)).of.mono fun y H2 ⟨F2, ρ2, d2, r2, ex, q2⟩ => q2.pure0 (by unfold RAs; exact ⟨_, y, rfl, z1, r2⟩)
/-- f(e, ..) -/
theorem v_call {CX : CXT} {k : Nat} {f : Addr} {fd : FuncData} {ps : List Str} {g : Fn} (G : FnOk X.prog X.w X.K X.mg X.base CX k f fd ps (spOf X.K X.mg g)) (hr : Room k X.A) (hg : Gl X x) (hm : X.mg x = some (.ref f)) (hk : PySem.W.keepIn X.K (.ref f) = true) (hb : Binds X.K fd ps []) (hx : Passes CX X E)
    (ha : PA X (e :: es) (DA X E ms)) (hdb : (x == ("__debug__" : Str)) = false := by decide) (he : starEach (e :: es) X.env = (false, eval e X.env) :: starEach es X.env := by rfl) (hpl : (backTo pos (starEach es X.env)).any (·.1) = false := by rfl) :
    PE X (.Call (.Name x p) (e :: es) [] pos) (DV X E (eCall g ms)) := PE.wk (pe_call G hr hg hm hk hb .nil hx ha hdb he hpl) fun σ H Q h =>
  (denV.bind (R := RAs X.K) h).mono fun vs H1 ⟨F1, ρ1, as, r, q⟩ => by rw [List.append_nil]; exact call_use q.1 r q
/-- f() -/
theorem v_call0 {CX : CXT} {k : Nat} {f : Addr} {fd : FuncData} {ps : List Str} {g : Fn} (G : FnOk X.prog X.w X.K X.mg X.base CX k f fd ps (spOf X.K X.mg g)) (hr : Room k X.A) (hg : Gl X x) (hm : X.mg x = some (.ref f)) (hk : PySem.W.keepIn X.K (.ref f) = true) (hb : Binds X.K fd ps []) (hx : Passes CX X E)
    (hdb : (x == ("__debug__" : Str)) = false := by decide) : PE X (.Call (.Name x p) [] [] pos) (DV X E (eCall g gNilA)) := PE.wk (pe_call0 G hr hg hm hk hb .nil hx hdb) fun σ H Q h => by
  obtain ⟨F, ρ, R, h2⟩ := denV.bind (R := RAs X.K) h
  obtain ⟨F1, ρ1, as, r, q⟩ := h2 F H [] (Stp.refl R) (by unfold RAs; rfl)
  show spOf X.K X.mg g ([] ++ []) H Q E
  exact call_use q.1 r q
end

/-! ### statements -/
inductive Flw where
  | nx | ret (r : Val) | bk | ct
def denS (K : PySem.W.Frag) (mg : Str → Option Value) (E : XK) (m : SM Flw) : TS := fun D σ H => ∃ F ρ, Rep K F H σ ρ ∧ match m ρ with
  | .ok .nx ρ' => ∀ F' H' σ', Stp K F H σ ρ F' H' σ' ρ' → D.nx σ' H'
  | .ok .bk ρ' => ∀ F' H' σ', Stp K F H σ ρ F' H' σ' ρ' → D.bk σ' H'
  | .ok .ct ρ' => ∀ F' H' σ', Stp K F H σ ρ F' H' σ' ρ' → D.ct σ' H'
  | .ok (.ret r) ρ' => ∀ F' H' σ' v, Stp K F H σ ρ F' H' σ' ρ' → VOk K H σ ρ F' H' σ' ρ' r v → D.rt v H'
  | .exc x ρ' => ExcW K mg E F H σ ρ x ρ'
  | .bad => False
abbrev DS (X : Cx) (E : XK) (m : SM Flw) : TS := denS X.K X.mg E m
/-- from a later state -/
def denSAt (K : PySem.W.Frag) (mg : Str → Option Value) (E : XK) (F : Hp) (ρ : Rho) (m : SM Flw) (D : Ends) (σ : St) (H : Hp) : Prop := Rep K F H σ ρ ∧ match m ρ with
  | .ok .nx ρ' => ∀ F' H' σ', Stp K F H σ ρ F' H' σ' ρ' → D.nx σ' H'
  | .ok .bk ρ' => ∀ F' H' σ', Stp K F H σ ρ F' H' σ' ρ' → D.bk σ' H'
  | .ok .ct ρ' => ∀ F' H' σ', Stp K F H σ ρ F' H' σ' ρ' → D.ct σ' H'
  | .ok (.ret r) ρ' => ∀ F' H' σ' v, Stp K F H σ ρ F' H' σ' ρ' → VOk K H σ ρ F' H' σ' ρ' r v → D.rt v H'
  | .exc x ρ' => ExcW K mg E F H σ ρ x ρ'
  | .bad => False
section
variable {K : PySem.W.Frag} {mg : Str → Option Value} {E : XK} {F H F1 H1 : Hp} {ρ ρ1 : Rho} {σ σ1 : St} {D : Ends} {m : SM Flw} {α β : Type} {R : Rl α β}
theorem denSAt.of (h : denSAt K mg E F ρ m D σ H) : denS K mg E m D σ H := ⟨F, ρ, h⟩
/-- what is wanted of the rest, carried behind a step -/
theorem denSAt.step {m' : SM Flw} (h : denSAt K mg E F ρ m D σ H) (e : m ρ = m' ρ1) (s : Stp K F H σ ρ F1 H1 σ1 ρ1) : denSAt K mg E F1 ρ1 m' D σ1 H1 := by
  refine ⟨s.rep, ?_⟩
  have h := h.2
  rw [e] at h
  cases q : m' ρ1 with
  | bad => rw [q] at h; exact h
  | exc x ρx => rw [q] at h; exact h.back s
  | ok fl ρ2 =>
    rw [q] at h
    cases fl with
    | nx => exact fun F2 H2 σ2 s2 => h F2 H2 σ2 (s.trans s2)
    | bk => exact fun F2 H2 σ2 s2 => h F2 H2 σ2 (s.trans s2)
    | ct => exact fun F2 H2 σ2 s2 => h F2 H2 σ2 (s.trans s2)
    | ret r => exact fun F2 H2 σ2 v s2 w => h F2 H2 σ2 v (s.trans s2) (w.back s)
theorem denS.bind {m : SM α} {k : α → SM Flw} (h : denS K mg E (SM.bind m k) D σ H) : den K mg E R m σ H (fun b H1 => ∃ F1 ρ1 a, R F1 σ a b ∧ denSAt K mg E F1 ρ1 (k a) D σ H1) := by
  obtain ⟨F, ρ, rep, h⟩ := h
  have h' : denSAt K mg E F ρ (SM.bind m k) D σ H := ⟨rep, h⟩
  refine ⟨F, ρ, rep, ?_⟩
  cases e : m ρ with
  | bad => have z : SM.bind m k ρ = .bad := by unfold SM.bind; rw [e]
           have h2 := h'.2; rw [z] at h2; exact h2
  | exc x ρx =>
    have z : SM.bind m k ρ = .exc x ρx := by unfold SM.bind; rw [e]
    have h2 := h'.2; rw [z] at h2; exact h2.e
  | ok a ρ1 =>
    have z : SM.bind m k ρ = k a ρ1 := by unfold SM.bind; rw [e]
    exact fun F1 H1 b s r => ⟨F1, ρ1, a, r, h'.step z s⟩
theorem denS.bindV {m : SM Val} {k : Val → SM Flw} (h : denS K mg E (SM.bind m k) D σ H) : denV K mg E m σ H (fun v H1 => ∃ F F1 H0 ρ ρ1 r, Rep K F H0 σ ρ ∧ H0 = H ∧ Stp K F H0 σ ρ F1 H1 σ ρ1 ∧ VOk K H0 σ ρ F1 H1 σ ρ1 r v ∧ denSAt K mg E F ρ (fun _ => k r ρ1) D σ H) := by
  obtain ⟨F, ρ, rep, h⟩ := h
  have h' : denSAt K mg E F ρ (SM.bind m k) D σ H := ⟨rep, h⟩
  refine ⟨F, ρ, rep, ?_⟩
  cases e : m ρ with
  | bad => have z : SM.bind m k ρ = .bad := by unfold SM.bind; rw [e]
           have h2 := h'.2; rw [z] at h2; exact h2
  | exc x ρx =>
    have z : SM.bind m k ρ = .exc x ρx := by unfold SM.bind; rw [e]
    have h2 := h'.2; rw [z] at h2; exact h2.e
  | ok a ρ1 =>
    have z : SM.bind m k ρ = k a ρ1 := by unfold SM.bind; rw [e]
    exact fun F1 H1 b s r => ⟨F, F1, H, ρ, ρ1, a, rep, rfl, s, r, h'.1, by have h2 := h'.2; rw [z] at h2; exact h2⟩
end
/-- one behind the other -/
def sSeq (m n : SM Flw) : SM Flw := fun ρ => match m ρ with
  | .ok .nx ρ' => n ρ'
  | r => r
def sNx : SM Flw := SM.pure .nx
def sBk : SM Flw := SM.pure .bk
def sCt : SM Flw := SM.pure .ct
def sRet (m : SM Val) : SM Flw := SM.bind m fun r => SM.pure (.ret r)
def sRetN : SM Flw := SM.pure (.ret (.dat .non))
def sIf (t : SM Bool) (m n : SM Flw) : SM Flw := SM.bind t fun b => if b = true then m else n
def sDrop (m : SM Val) : SM Flw := SM.bind m fun _ => SM.pure .nx
/-- a slot takes a value -/
def put (i : Nat) (r : Val) : Rho → Option Rho := fun ρ => match ρ[i]? with
  | some (.own true _) => none
  | some _ => some (ρ.set i r)
  | none => none
def sSet (i : Nat) (m : SM Val) : SM Flw := SM.bind m fun r ρ => match put i r ρ with
  | some ρ' => .ok .nx ρ'
  | none => .bad
section
variable {X : Cx} {E : XK} {st : Stmt} {rest : List Stmt} {m n : SM Flw} {pos : Pos} {e c : Expr} {mv : SM Val} {t : SM Bool}
theorem ss_nil : PSs X [] (DS X E sNx) := PSs.wk pss_nil fun D σ H ⟨F, ρ, R, h⟩ => h F H σ (Stp.refl R)
theorem ss_one (h : PS X st (DS X E m)) : PSs X [st] (DS X E m) := pss_one h
theorem seq_use {D : Ends} {σ : St} {H : Hp} (h : denS X.K X.mg E (sSeq m n) D σ H) : denS X.K X.mg E m { D with nx := denS X.K X.mg E n D } σ H := by
  obtain ⟨F, ρ, R, h⟩ := h
  have h' : denSAt X.K X.mg E F ρ (sSeq m n) D σ H := ⟨R, h⟩
  refine ⟨F, ρ, R, ?_⟩
  cases e : m ρ with
  | bad => have z : sSeq m n ρ = .bad := by unfold sSeq; rw [e]
           have h2 := h'.2; rw [z] at h2; exact h2
  | exc x ρx =>
    have z : sSeq m n ρ = .exc x ρx := by unfold sSeq; rw [e]
    have h2 := h'.2; rw [z] at h2; exact h2
  | ok fl ρ1 =>
    cases fl with
    | nx => exact fun F1 H1 σ1 s => (h'.step (m' := n) (by unfold sSeq; rw [e]) s).of
    | bk => have z : sSeq m n ρ = .ok .bk ρ1 := by unfold sSeq; rw [e]
            have h2 := h'.2; rw [z] at h2; exact h2
    | ct => have z : sSeq m n ρ = .ok .ct ρ1 := by unfold sSeq; rw [e]
            have h2 := h'.2; rw [z] at h2; exact h2
    | ret r => have z : sSeq m n ρ = .ok (.ret r) ρ1 := by unfold sSeq; rw [e]
               have h2 := h'.2; rw [z] at h2; exact h2
theorem ss_cons (h : PS X st (DS X E m)) (k : PSs X rest (DS X E n)) : PSs X (st :: rest) (DS X E (sSeq m n)) := PSs.wk (pss_cons h k) fun D σ H h => seq_use h
theorem s_pass : PS X (.Pass pos) (DS X E sNx) := PS.wk ps_pass fun D σ H ⟨F, ρ, R, h⟩ => h F H σ (Stp.refl R)
theorem s_brk : PS X (.Break pos) (DS X E sBk) := PS.wk ps_break fun D σ H ⟨F, ρ, R, h⟩ => h F H σ (Stp.refl R)
theorem s_cont : PS X (.Continue pos) (DS X E sCt) := PS.wk ps_continue fun D σ H ⟨F, ρ, R, h⟩ => h F H σ (Stp.refl R)
theorem s_ret (h : PE X e (DV X E mv)) : PS X (.Return (some e) pos) (DS X E (sRet mv)) := PS.wk (ps_ret h) fun D σ H h => by
  obtain ⟨F, ρ, R, h2⟩ := denS.bindV h
  refine ⟨F, ρ, R, ?_⟩
  cases q : mv ρ with
  | bad => rw [q] at h2; exact h2
  | exc x ρx => rw [q] at h2; exact h2
  | ok r ρ1 =>
    rw [q] at h2
    intro F' H' v s w
    obtain ⟨F0, F1, H0, ρ0, ρ2, r2, R0, e0, s0, w0, d0⟩ := h2 F' H' v s w
    subst e0
    exact d0.2 F1 H' σ v s0 w0
theorem s_retN : PS X (.Return none pos) (DS X E sRetN) := PS.wk ps_retN fun D σ H ⟨F, ρ, R, h⟩ => h F H σ .non (Stp.refl R) (by unfold VOk Rp; rfl)
theorem s_if {p q : List Stmt} (hc : PT X c (DB X E t)) (ha : PSs X p (DS X E m)) (hb : PSs X q (DS X E n)) : PS X (.If c p q pos) (DS X E (sIf t m n)) := PS.wk (ps_if hc ha hb) fun D σ H h =>
  (denS.bind (R := RB) h).mono fun x H1 ⟨F1, ρ1, d1, r1, q1⟩ => by
    cases (show d1 = x from r1)
    cases x with
    | true => exact q1.of
    | false => exact q1.of
theorem put_some {i : Nat} {r : Val} {ρ ρ' : Rho} (h : put i r ρ = some ρ') : (∀ m, ρ[i]? ≠ some (Val.own true m)) ∧ i < ρ.length ∧ ρ' = ρ.set i r := by
  unfold put at h
  split at h
  · cases h
  · rename_i w hw hi
    cases h
    refine ⟨fun m z => ?_, (List.getElem?_eq_some_iff.mp hi).1, rfl⟩
    rw [hi] at z
    exact hw m (Option.some.inj z)
  · cases h
theorem Stp.put {K : PySem.W.Frag} {F H F' H' : Hp} {σ σ1 : St} {ρ ρ1 ρ2 : Rho} {i : Nat} {r : Val} {v : V} (s : Stp K F H σ ρ F' H' σ1 ρ1) (w : VOk K H σ ρ F' H' σ1 ρ1 r v) (h : put i r ρ1 = some ρ2) : Stp K F H σ ρ F' H' (σ1.set i (some v)) ρ2 := by
  obtain ⟨h1, h2, rfl⟩ := put_some h
  have hσ : i < σ1.length := by rw [← s.rep.len]; exact h2
  have at_ρ : (ρ1.set i r)[i]? = some r := List.getElem?_set_self h2
  have at_σ : (σ1.set i (some v))[i]? = some (some v) := List.getElem?_set_self hσ
  have nρ : ∀ {j : Nat}, j ≠ i → (ρ1.set i r)[j]? = ρ1[j]? := fun hj => List.getElem?_set_ne (Ne.symm hj)
  have nσ : ∀ {j : Nat}, j ≠ i → (σ1.set i (some v))[j]? = σ1[j]? := fun hj => List.getElem?_set_ne (Ne.symm hj)
  have fresh : ∀ (p : Bool) (m : MO), r = Val.own p m → p = false ∧ ∃ a o, v = .ref a ∧ (H a = none ∨ Ow σ ρ a) ∧ F' a = none ∧ H' a = some o ∧ MRp K F' m o ∧ ¬ Ow σ1 ρ1 a := fun p m e => by
    subst e
    cases p with
    | true => exact w.elim
    | false => exact ⟨rfl, w⟩
  refine ⟨⟨by rw [List.length_set, List.length_set]; exact s.rep.len, s.rep.sub, s.rep.tab, s.rep.nt, fun j d q => ?_, fun j p m q => ?_, fun j k a p q m n x1 x2 x3 x4 => ?_⟩, s.ext, s.keep, s.thr, s.frz, fun b ⟨j, p, m, x1, x2⟩ => ?_, fun j m q => ?_, fun j m q => ?_⟩
  · by_cases hj : j = i
    · subst hj
      rw [at_ρ] at q; cases q
      exact ⟨v, at_σ, w⟩
    · rw [nρ hj] at q; rw [nσ hj]; exact s.rep.dat j d q
  · by_cases hj : j = i
    · subst hj
      rw [at_ρ] at q
      obtain ⟨_, a, o, e, _, e2, e3, e4, _⟩ := fresh p m (Option.some.inj q)
      exact ⟨a, o, by rw [at_σ, e], e2, e3, e4⟩
    · rw [nρ hj] at q; rw [nσ hj]; exact s.rep.own j p m q
  · by_cases hj : j = i
    · by_cases hk : k = i
      · rw [hj, hk]
      · subst hj
        rw [at_ρ] at x1
        rw [at_σ] at x3
        obtain ⟨_, a', o, e, _, _, _, _, no⟩ := fresh p m (Option.some.inj x1)
        rw [e] at x3; cases x3
        rw [nρ hk] at x2; rw [nσ hk] at x4
        exact (no ⟨k, q, n, x2, x4⟩).elim
    · by_cases hk : k = i
      · subst hk
        rw [at_ρ] at x2
        rw [at_σ] at x4
        obtain ⟨_, a', o, e, _, _, _, _, no⟩ := fresh q n (Option.some.inj x2)
        rw [e] at x4; cases x4
        rw [nρ hj] at x1; rw [nσ hj] at x3
        exact (no ⟨j, p, m, x1, x3⟩).elim
      · rw [nρ hj] at x1; rw [nσ hj] at x3; rw [nρ hk] at x2; rw [nσ hk] at x4
        exact s.rep.dis j k a p q m n x1 x2 x3 x4
  · by_cases hj : j = i
    · subst hj
      rw [at_ρ] at x1
      rw [at_σ] at x2
      obtain ⟨_, a', o, e, h0, _⟩ := fresh p m (Option.some.inj x1)
      rw [e] at x2; cases x2
      exact h0.symm
    · rw [nρ hj] at x1; rw [nσ hj] at x2
      exact s.own b ⟨j, p, m, x1, x2⟩
  · obtain ⟨⟨m', e1⟩, e2⟩ := s.par j m q
    have hj : j ≠ i := by rintro rfl; exact h1 m' e1
    exact ⟨⟨m', by rw [nρ hj]; exact e1⟩, by rw [nσ hj]; exact e2⟩
  · by_cases hj : j = i
    · subst hj
      rw [at_ρ] at q
      cases (fresh true m (Option.some.inj q)).1
    · rw [nρ hj] at q
      exact s.up j m q
theorem set_use {i : Nat} {D : Ends} {σ : St} {H : Hp} (h : denS X.K X.mg E (sSet i mv) D σ H) : DV X E mv σ H (fun v H1 => D.nx (σ.set i (some v)) H1) := by
  obtain ⟨F, ρ, R, h2⟩ := denS.bindV h
  refine ⟨F, ρ, R, ?_⟩
  cases q : mv ρ with
  | bad => rw [q] at h2; exact h2
  | exc x ρx => rw [q] at h2; exact h2
  | ok r ρ1 =>
    rw [q] at h2
    intro F' H' v s w
    obtain ⟨F0, F1, H0, ρ0, ρ2, r2, R0, e0, s0, w0, d0⟩ := h2 F' H' v s w
    subst e0
    have d := d0.2
    dsimp only at d
    cases z : put i r2 ρ2 with
    | none => rw [z] at d; exact d.elim
    | some ρ3 => rw [z] at d; exact d F1 H' _ (s0.put w0 z)
/-- x = e -/
theorem s_set {i : Nat} {x : Str} {pos' : Pos} (hN : X.N.Nodup) (hi : X.N[i]? = some x) (hx : Loc X.env.scope x) (h : PE X e (DV X E mv)) (hs : swapsWith e (some (.Name x pos')) pos.line X.env = pure false := by rfl) (hf : X.fn x = true ∨ X.env.scope.names.lookup x = some .local := by first | exact .inl rfl | exact .inr rfl | assumption) :
    PS X (.Assign [.Name x pos'] e pos) (DS X E (sSet i mv)) := PS.wk (ps_set hN hi hx h hs hf) fun D σ H h => set_use h
theorem s_expr (h : PE X e (DV X E mv)) (hs : swapsWith e none pos.line X.env = pure false := by rfl) : PS X (.Expr e pos) (DS X E (sDrop mv)) := PS.wk (ps_expr h hs) fun D σ H h => by
  obtain ⟨F, ρ, R, h2⟩ := denS.bindV h
  refine ⟨F, ρ, R, ?_⟩
  cases q : mv ρ with
  | bad => rw [q] at h2; exact h2
  | exc x ρx => rw [q] at h2; exact h2
  | ok r ρ1 =>
    rw [q] at h2
    intro F' H' v s w
    obtain ⟨F0, F1, H0, ρ0, ρ2, r2, R0, e0, s0, w0, d0⟩ := h2 F' H' v s w
    subst e0
    exact d0.2 F1 H' σ s0
end
end Cd

set_option Elab.async false
set_option linter.all false
set_option autoImplicit false
set_option maxRecDepth 100000
set_option maxHeartbeats 1000000
/-! Core6: a def by its body. -/
namespace Cd
open PySem PySem.Spec L2

/-- a def's function of its arguments: N names, the first n its parameters -/
def blank (n : Nat) : Rho := List.replicate n Val.un
/-- what a caller sees of the slots behind -/
def seenOne (a w : Val) : Val := match w with
  | .own true m => .own true m
  | _ => a
def seen : Rho → Rho → Rho
  | a :: as, w :: ws => seenOne a w :: seen as ws
  | as, [] => as
  | [], _ => []
def runFn (n N : Nat) (m : SM Flw) : Fn := fun args => if args.length = n then match m (args ++ blank (N - n)) with
    | .ok (.ret r) ρ' => .ok r (seen args ρ')
    | .ok .nx ρ' => .ok (.dat .non) (seen args ρ')
    | .exc x ρ' => .exc x (seen args ρ')
    | _ => .bad
  else .bad
theorem seen_len : ∀ (as ws : Rho), (seen as ws).length = as.length
  | [], [] => rfl
  | [], _ :: _ => rfl
  | _ :: _, [] => rfl
  | a :: as, w :: ws => by unfold seen; rw [List.length_cons, List.length_cons, seen_len as ws]
theorem seen_get : ∀ (as ws : Rho) (i : Nat), (∀ p m, (seen as ws)[i]? = some (Val.own p m) → (p = true ∧ ws[i]? = some (Val.own true m)) ∨ as[i]? = some (Val.own p m)) ∧ (∀ d, (seen as ws)[i]? = some (Val.dat d) → as[i]? = some (Val.dat d)) ∧
    (∀ a m, as[i]? = some a → ws[i]? = some (Val.own true m) → (seen as ws)[i]? = some (Val.own true m))
  | [], [], i => ⟨fun p m h => by simp [seen] at h, fun d h => by simp [seen] at h, fun a m h => by simp at h⟩
  | [], _ :: _, i => ⟨fun p m h => by simp [seen] at h, fun d h => by simp [seen] at h, fun a m h => by simp at h⟩
  | a :: as, [], i => ⟨fun p m h => .inr h, fun d h => h, fun a m _ h => by simp at h⟩
  | a :: as, w :: ws, 0 => by
    cases w with
    | own p m =>
      cases p with
      | true => exact ⟨fun p m h => .inl (by simp [seen, seenOne] at h; obtain ⟨rfl, rfl⟩ := h; exact ⟨rfl, rfl⟩), fun d h => by simp [seen, seenOne] at h, fun a m _ h => by simp at h; subst h; rfl⟩
      | false => exact ⟨fun p m h => .inr h, fun d h => h, fun a m _ h => by simp at h⟩
    | un => exact ⟨fun p m h => .inr h, fun d h => h, fun a m _ h => by simp at h⟩
    | dat d => exact ⟨fun p m h => .inr h, fun d h => h, fun a m _ h => by simp at h⟩
  | a :: as, w :: ws, i + 1 => by
    have ih := seen_get as ws i
    have e : (seen (a :: as) (w :: ws))[i + 1]? = (seen as ws)[i]? := by rw [seen]; rfl
    rw [e]
    exact ih
section
variable {K : PySem.W.Frag} {mg : Str → Option Value} {E : XK} {F H F' H' : Hp} {σ σ' : St} {ρ ρ' : Rho} {k : Nat}
theorem get_ext {α : Type} {l : List α} {x y : α} {k i : Nat} (h : (l ++ List.replicate k x)[i]? = some y) (ne : y ≠ x) : l[i]? = some y := by
  by_cases hi : i < l.length
  · rwa [List.getElem?_append_left hi] at h
  · rw [List.getElem?_append_right (by omega)] at h
    have := List.mem_of_getElem? h
    exact (ne (List.eq_of_mem_replicate this)).elim
theorem get_in {α : Type} {l : List α} {x y : α} {k i : Nat} (h : l[i]? = some y) : (l ++ List.replicate k x)[i]? = some y := by
  rw [List.getElem?_append_left (List.getElem?_eq_some_iff.mp h).1]
  exact h
theorem Rep.extend (R : Rep K F H σ ρ) (k : Nat) : Rep K F H (σ ++ List.replicate k none) (ρ ++ blank k) := by
  have oρ : ∀ (i : Nat) (p : Bool) (m : MO), (ρ ++ blank k)[i]? = some (Val.own p m) → ρ[i]? = some (Val.own p m) := fun i p m h => get_ext h (by simp)
  refine ⟨by rw [List.length_append, List.length_append]; unfold blank; rw [List.length_replicate, List.length_replicate, R.len], R.sub, R.tab, R.nt, fun i d h => ?_, fun i p m h => ?_, fun i j a p q m n h1 h2 h3 h4 => R.dis i j a p q m n (oρ _ _ _ h1) (oρ _ _ _ h2) (get_ext h3 (by simp)) (get_ext h4 (by simp))⟩
  · obtain ⟨v, e, r⟩ := R.dat i d (get_ext h (by simp))
    exact ⟨v, get_in e, r⟩
  · obtain ⟨a, o, e, r⟩ := R.own i p m (oρ _ _ _ h)
    exact ⟨a, o, get_in e, r⟩
theorem Ow.ext_iff {b : Addr} : Ow (σ ++ List.replicate k none) (ρ ++ blank k) b ↔ Ow σ ρ b :=
  ⟨fun ⟨i, p, m, h1, h2⟩ => ⟨i, p, m, get_ext h1 (by simp), get_ext h2 (by simp)⟩, fun ⟨i, p, m, h1, h2⟩ => ⟨i, p, m, get_in h1, get_in h2⟩⟩
theorem own_seen (no : noOwn ρ) (s : Stp K F H (σ ++ List.replicate k none) (ρ ++ blank k) F' H' σ' ρ') (hl : σ.length = ρ.length) {i : Nat} {p : Bool} {m : MO} (h : (seen ρ ρ')[i]? = some (Val.own p m)) : p = true ∧ ρ'[i]? = some (Val.own true m) ∧ σ'[i]? = σ[i]? ∧ ∃ m0, ρ[i]? = some (Val.own true m0) := by
  have hi : i < ρ.length := by
    have := (List.getElem?_eq_some_iff.mp h).1
    rw [seen_len] at this
    exact this
  have key : ∃ m0, ρ[i]? = some (Val.own true m0) := by
    rcases (seen_get ρ ρ' i).1 p m h with ⟨rfl, h1⟩ | h1
    · obtain ⟨m0, h2⟩ := s.up i m h1
      exact ⟨m0, get_ext h2 (by simp)⟩
    · cases p with
      | true => exact ⟨m, h1⟩
      | false => exact (no i m h1).elim
  obtain ⟨m0, hm⟩ := key
  obtain ⟨⟨m', h1⟩, h2⟩ := s.par i m0 (get_in hm)
  have h2 : σ'[i]? = σ[i]? := by rw [h2, List.getElem?_append_left (by omega)]
  have h3 := (seen_get ρ ρ' i).2.2 _ m' hm h1
  rw [h3] at h
  cases h
  exact ⟨rfl, h1, h2, m0, hm⟩
theorem Stp.left (R : Rep K F H σ ρ) (no : noOwn ρ) (s : Stp K F H (σ ++ List.replicate k none) (ρ ++ blank k) F' H' σ' ρ') : Stp K F H σ ρ F' H' σ (seen ρ ρ') := by
  have hl := R.len.symm
  refine ⟨⟨by rw [seen_len]; exact R.len, s.rep.sub, s.rep.tab, s.rep.nt, fun i d h => ?_, fun i p m h => ?_, fun i j a p q m n h1 h2 h3 h4 => ?_⟩, s.ext, fun b o h n nt => s.keep b o h (fun w => n (Ow.ext_iff.mp w)) nt, s.thr, fun b o h1 h2 => (s.frz b o h1 h2).imp id Ow.ext_iff.mp, fun b ⟨i, p, m, h1, h2⟩ => ?_, fun i m h => ?_, fun i m h => ?_⟩
  · obtain ⟨v, e, r⟩ := R.dat i d ((seen_get ρ ρ' i).2.1 d h)
    exact ⟨v, e, r.mono s.ext⟩
  · obtain ⟨rfl, h1, h2, _⟩ := own_seen no s hl h
    obtain ⟨a, o, e, r⟩ := s.rep.own i true m h1
    exact ⟨a, o, h2 ▸ e, r⟩
  · obtain ⟨rfl, x1, x2, _⟩ := own_seen no s hl h1
    obtain ⟨rfl, y1, y2, _⟩ := own_seen no s hl h2
    exact s.rep.dis i j a _ _ _ _ x1 y1 (x2.trans h3) (y2.trans h4)
  · obtain ⟨rfl, x1, x2, m0, x3⟩ := own_seen no s hl h1
    exact .inl ⟨i, true, m0, x3, h2⟩
  · obtain ⟨⟨m', h1⟩, _⟩ := s.par i m (get_in h)
    exact ⟨⟨m', (seen_get ρ ρ' i).2.2 _ m' h h1⟩, rfl⟩
  · obtain ⟨_, _, _, m0, h3⟩ := own_seen no s hl h
    exact ⟨m0, h3⟩
theorem VOk.left (R : Rep K F H σ ρ) (no : noOwn ρ) (s : Stp K F H (σ ++ List.replicate k none) (ρ ++ blank k) F' H' σ' ρ') {r : Val} {v : V} (w : VOk K H (σ ++ List.replicate k none) (ρ ++ blank k) F' H' σ' ρ' r v) : VOk K H σ ρ F' H' σ (seen ρ ρ') r v := by
  have hl := R.len.symm
  cases r with
  | un => exact w
  | dat d => exact w
  | own p m =>
    cases p with
    | true => exact w
    | false =>
      obtain ⟨p, o, e, h0, h1, h2, h3, h4⟩ := w
      refine ⟨p, o, e, h0.imp id Ow.ext_iff.mp, h1, h2, h3, fun ⟨i, q, m', z1, z2⟩ => h4 ?_⟩
      obtain ⟨_, x1, x2, _⟩ := own_seen no s hl z1
      exact ⟨i, true, m', x1, x2.trans z2⟩
/-- a body's run from the arguments -/
theorem body_use {g : Fn} {n N : Nat} {m : SM Flw} (hg : ∀ ρ, g ρ ≠ .bad → g ρ = runFn n N m ρ) {vs : List V} {Q : VK} (hN : vs.length ≤ N) (h : spOf K mg g vs H Q E) : vs.length = n ∧ denS K mg E m { nx := fun _ H' => Q .non H', rt := Q } (vs.map some ++ List.replicate (N - vs.length) none) H := by
  obtain ⟨F, ρ, R, no, h⟩ := h
  have nb : g ρ ≠ .bad := fun z => by rw [z] at h; exact h
  rw [hg ρ nb] at h
  unfold runFn at h
  by_cases hl : ρ.length = n
  · rw [if_pos hl] at h
    have hvl : vs.length = n := by have := R.len; rw [List.length_map] at this; omega
    have hk : N - vs.length = N - n := by rw [hvl]
    refine ⟨hvl, F, ρ ++ blank (N - n), by rw [hk]; exact R.extend _, ?_⟩
    rw [hk]
    cases q : m (ρ ++ blank (N - n)) with
    | bad => rw [q] at h; exact h
    | exc x ρx => rw [q] at h; exact fun cls d F' H' σ' h1 h2 => h cls d F' H' h1 (Stp.left R no h2)
    | ok fl ρ' =>
      rw [q] at h
      cases fl with
      | nx => exact fun F' H' σ' s => h F' H' .non (Stp.left R no s) (by unfold VOk Rp; rfl)
      | bk => exact h.elim
      | ct => exact h.elim
      | ret r => exact fun F' H' σ' v s w => h F' H' v (Stp.left R no s) (w.left R no s)
  · rw [if_neg hl] at h; exact h.elim
end
/-- THE RULE for a def -/
theorem fn_ok {P : Program} {w : World} {K : PySem.W.Frag} {mg : Str → Option Value} {base : Heap} {x qual : Str} {params : Arguments} {body : List Stmt} {scope : Scope} {f : Addr} {fd : FuncData} {N ps : List Str} {k : Nat} {g : Fn} {m : SM Flw}
    (FD : FunD K x qual params body scope [] [] f fd) (S : FnScope N ps scope) (hpN : ps.length ≤ N.length) (hg : ∀ ρ, g ρ ≠ .bad → g ρ = runFn ps.length N.length m ρ)
    (hbody : ∀ (cdv : Value) (A : Around) (outer : List Env) (s : Shared) (H : Hp) (E : XK), Room k (A.deeper (PyProof.Rows.envOfC qual scope s.heap.objs.size f cdv)) → PSs (cxOf (L2N.CX P w) P w K mg base N qual scope f cdv A outer s H E) body (denS K mg E m)) :
    FnOk P w K mg base (L2N.CX P w) (k + 1) f fd ps (spOf K mg g) := by
  have len : ∀ vs H Q E, spOf K mg g vs H Q E → vs.length = ps.length := fun vs H Q E h => by
    obtain ⟨F, ρ, R, no, h⟩ := h
    have nb : g ρ ≠ .bad := fun z => by rw [z] at h; exact h
    have e := hg ρ nb
    have := R.len
    rw [List.length_map] at this
    unfold runFn at e
    by_cases hl : ρ.length = ps.length
    · omega
    · rw [if_neg hl] at e; exact (nb e).elim
  refine FD.ok S len fun cdv A outer s H vs Q E hr h => ⟨_, hbody cdv A outer s H E hr, ?_⟩
  have hvl := len vs H Q E h
  obtain ⟨_, z⟩ := body_use hg (N := N.length) (by omega) h
  exact z
end Cd

set_option Elab.async false
set_option linter.all false
set_option autoImplicit false
set_option maxRecDepth 100000
set_option maxHeartbeats 1000000
/-! Core7: targets, loops. -/
namespace Cd
open PySem PySem.Spec L2

/-! ### targets -/
abbrev Tg := D → Rho → Option Rho
/-- vs: the slots that it may change -/
def DG (X : Cx) (vs : List Nat) (T : Tg) : TG := fun v σ H Q => ∃ F ρ d ρ', Rep X.K F H σ ρ ∧ Rp X.K F d v ∧ T d ρ = some ρ' ∧ ∀ σ', Stp X.K F H σ ρ F H σ' ρ' → (σ'.length = σ.length ∧ ∀ j, j ∉ vs → σ'[j]? = σ[j]?) → Q σ' H
abbrev Tgs := List D → Rho → Option Rho
def DGs (X : Cx) (is : List Nat) (T : Tgs) : TGs := fun vs σ H Q => ∃ F ρ ds ρ', Rep X.K F H σ ρ ∧ RpL X.K F ds vs ∧ T ds ρ = some ρ' ∧ ∀ σ', Stp X.K F H σ ρ F H σ' ρ' → (σ'.length = σ.length ∧ ∀ j, j ∉ is → σ'[j]? = σ[j]?) → Q σ' H
theorem PG.wk {X : Cx} {e : Expr} {t t' : TG} (h : PG X e t) (w : ∀ v σ H Q, t' v σ H Q → t v σ H Q) : PG X e t' := ⟨fun pins s σ H v u Q I r q => h.run pins s σ H v u Q I r (w v σ H Q q)⟩
theorem PGs.wk {X : Cx} {e : List Expr} {t t' : TGs} (h : PGs X e t) (w : ∀ v σ H Q, t' v σ H Q → t v σ H Q) : PGs X e t' := ⟨fun pins s σ H v u Q I r q => h.run pins s σ H v u Q I r (w v σ H Q q)⟩
def gNm (i : Nat) : Tg := fun d => put i (.dat d)
def gNil : Tgs := fun ds ρ => match ds with
  | [] => some ρ
  | _ => none
def gCons (T : Tg) (U : Tgs) : Tgs := fun ds ρ => match ds with
  | d :: r => (T d ρ).bind (U r)
  | [] => none
def gTp (n : Nat) (U : Tgs) : Tg := fun d ρ => match d with
  | .tup ds => if ds.length = n then U ds ρ else none
  | _ => none
section
variable {X : Cx} {E : XK} {pos : Pos} {T : Tg} {U : Tgs} {e : Expr} {es : List Expr}
theorem stp_put0 {K : PySem.W.Frag} {F H : Hp} {σ : St} {ρ ρ2 : Rho} {i : Nat} {d : D} {v : V} (R : Rep K F H σ ρ) (r : Rp K F d v) (h : put i (.dat d) ρ = some ρ2) : Stp K F H σ ρ F H (σ.set i (some v)) ρ2 := (Stp.refl R).put (r := .dat d) r h
theorem g_nm {i : Nat} {x : Str} (hN : X.N.Nodup) (hi : X.N[i]? = some x) (hx : Loc X.env.scope x) (hf : X.fn x = true ∨ X.env.scope.names.lookup x = some .local := by first | exact .inl rfl | exact .inr rfl | assumption) : PG X (.Name x pos) (DG X [i] (gNm i)) :=
  PG.wk (pg_name hN hi hx hf) fun v σ H Q ⟨F, ρ, d, ρ', R, r, h, q⟩ => q _ (stp_put0 R r h) ⟨List.length_set, fun j hj => List.getElem?_set_ne fun e => hj (by simp [e])⟩
theorem gs_nil : PGs X [] (DGs X [] gNil) := PGs.wk pgs_nil fun vs σ H Q ⟨F, ρ, ds, ρ', R, r, h, q⟩ => by
  cases ds with
  | nil => unfold RpL at r; cases h; exact ⟨r, q _ (Stp.refl R) ⟨rfl, fun _ _ => rfl⟩⟩
  | cons d ds => cases h
theorem gs_cons {is js : List Nat} (h1 : PG X e (DG X is T)) (h2 : PGs X es (DGs X js U)) (hs : (assignEach (e :: es) X.env).map (·.2) = assign e X.env :: (assignEach es X.env).map (·.2) := by rfl) : PGs X (e :: es) (DGs X (is ++ js) (gCons T U)) := PGs.wk (pgs_cons h1 h2 hs) fun vs σ H Q ⟨F, ρ, ds, ρ', R, r, h, q⟩ => by
  cases ds with
  | nil => cases h
  | cons d ds =>
    unfold RpL at r
    obtain ⟨v, w, rfl, r1, r2⟩ := r
    have h : (T d ρ).bind (U ds) = some ρ' := h
    obtain ⟨ρ1, e1, e2⟩ := Option.bind_eq_some_iff.mp h
    exact ⟨v, w, rfl, F, ρ, d, ρ1, R, r1, e1, fun σ1 s1 n1 => ⟨F, ρ1, ds, ρ', s1.rep, r2, e2, fun σ2 s2 n2 => q σ2 (s1.trans s2) ⟨n2.1.trans n1.1, fun j hj => (n2.2 j fun z => hj (List.mem_append_right _ z)).trans (n1.2 j fun z => hj (List.mem_append_left _ z))⟩⟩⟩
theorem gtp_use {n : Nat} {is : List Nat} {v : V} {σ : St} {H : Hp} {Q : St → Hp → Prop} (hh : DG X is (gTp n U) v σ H Q) : gTup X.K n (DGs X is U) v σ H Q := by
  obtain ⟨F, ρ, d, ρ', R, r, h, q⟩ := hh
  cases d with
  | tup ds =>
    unfold Rp at r
    obtain ⟨a, vs, rfl, h1, h2⟩ := r
    have h : (if ds.length = n then U ds ρ else none) = some ρ' := h
    by_cases hl : ds.length = n
    · rw [if_pos hl] at h
      exact ⟨a, vs, rfl, same_t R.sub h1, h2.len.trans hl, F, ρ, ds, ρ', R, h2, h, q⟩
    · rw [if_neg hl] at h; cases h
  | _ => cases h
theorem g_tp {k n : Nat} {is : List Nat} (hc : X.calm = true) (h : PGs X es (DGs X is U)) (hn : (assignEach es X.env).length = n := by rfl) (hst : (assignEach es X.env).findIdx? (·.1) = none := by rfl) : PG X (.Tuple es k pos) (DG X is (gTp n U)) := PG.wk (pg_tup hc h hn hst) fun v σ H Q hh => gtp_use hh
/-- target = e -/
def sAsg (m : SM D) (T : Tg) : SM Flw := SM.bind m fun d ρ => match T d ρ with
  | some ρ' => .ok .nx ρ'
  | none => .bad
theorem s_asg {tg : Expr} {m : SM D} {is : List Nat} (he : PE X e (DE X E m)) (hg : PG X tg (DG X is T)) (hs : swapsWithSole [tg] e pos.line X.env = pure false := by rfl) (hw : swappedStores [tg] e X.env = pure none := by rfl)
    (h1 : (assignEach [tg] X.env).map (·.2) = [assign tg X.env] := by rfl) : PS X (.Assign [tg] e pos) (DS X E (sAsg m T)) := PS.wk (ps_asg he hg hs hw h1) fun D σ H h =>
  (denS.bind (R := RD X.K) h).mono fun x H1 ⟨F1, ρ1, d, r, q⟩ => by
    have q2 := q.2
    dsimp only at q2
    cases z : T d ρ1 with
    | none => rw [z] at q2; exact q2.elim
    | some ρ2 =>
      rw [z] at q2
      exact ⟨F1, ρ1, d, ρ2, q.1, r, z, fun σ' s _ => q2 F1 H1 σ' s⟩
/-- a, b = e1, e2, local names -/
def sPar (i j : Nat) (m n : SM Val) : SM Flw := SM.bind m fun r => SM.bind n fun u ρ => match (put i r ρ).bind (put j u) with
  | some ρ' => .ok .nx ρ'
  | none => .bad
theorem VOk.fwd {K : PySem.W.Frag} {H H1 F1 F2 H2 : Hp} {σ σ1 σ2 : St} {ρ ρ1 ρ2 : Rho} {r : Val} {v : V} (w : VOk K H σ ρ F1 H1 σ1 ρ1 r v) (s : Stp K F1 H1 σ1 ρ1 F2 H2 σ2 ρ2) : VOk K H σ ρ F2 H2 σ2 ρ2 r v := by
  cases r with
  | un => exact w
  | dat d => exact w.mono s.ext
  | own p m =>
    cases p with
    | true => exact w
    | false =>
      obtain ⟨p, o, e, h0, h1, h2, h3, h4⟩ := w
      refine ⟨p, o, e, h0, ?_, s.keep p o h2 h4 h3.nt, h3.mono s.ext, fun z => (s.own p z).elim h4 fun y => by rw [h2] at y; cases y⟩
      cases q : F2 p with
      | none => rfl
      | some u =>
        rcases s.frz p u q h1 with y | y
        · rw [h2] at y; cases y
        · exact (h4 y).elim
theorem s_par {i j : Nat} {x y : Str} {a b : Expr} {px py pt : Pos} {kt k2 pt2} {m n : SM Val} (hc : X.calm = true) (hN : X.N.Nodup) (hi : X.N[i]? = some x) (hj : X.N[j]? = some y) (hij : i ≠ j)
    (hx : X.env.scope.names.lookup x = some .local) (hy : X.env.scope.names.lookup y = some .local) (ha : PE X a (DV X E m)) (hb : PE X b (DV X E n))
    (hw : swappedStores [.Tuple [.Name x px, .Name y py] kt pt] (.Tuple [a, b] k2 pt2) X.env = pure (some [x, y]))
    (hs : swapsWithSole [.Tuple [.Name x px, .Name y py] kt pt] (.Tuple [a, b] k2 pt2) pos.line X.env = pure false := by rfl)
    (hs1 : starEach [a, b] X.env = (false, eval a X.env) :: starEach [b] X.env := by rfl) (hs2 : starEach [b] X.env = (false, eval b X.env) :: starEach [] X.env := by rfl) :
    PS X (.Assign [.Tuple [.Name x px, .Name y py] kt pt] (.Tuple [a, b] k2 pt2) pos) (DS X E (sPar i j m n)) :=
  PS.wk (ps_par hc hN hi hj hij hx hy (pa_cons ha (pa_cons hb pa_nil hs2) hs1) hw hs) fun D σ H h => by
    obtain ⟨F, ρ, R, h2⟩ := denS.bindV h
    refine ⟨F, ρ, R, ?_⟩
    cases q : m ρ with
    | bad => rw [q] at h2; exact h2
    | exc x ρx => rw [q] at h2; exact h2
    | ok r ρ1 =>
      rw [q] at h2
      intro F1 H1 v s w
      obtain ⟨F0, F1', H0, ρ0, ρ1', r', R0, e0, s0, w0, d0⟩ := h2 F1 H1 v s w
      subst e0
      refine ⟨F1', ρ1', s0.rep, ?_⟩
      have d1 := d0.2
      dsimp only at d1
      cases q2 : n ρ1' with
      | bad => have z : SM.bind n (fun u ρ => match (put i r' ρ).bind (put j u) with
          | some ρ' => Res.ok Flw.nx ρ'
          | none => .bad) ρ1' = .bad := by unfold SM.bind; rw [q2]
               rw [z] at d1; exact d1
      | exc x ρx =>
        have z : SM.bind n (fun u ρ => match (put i r' ρ).bind (put j u) with
          | some ρ' => Res.ok Flw.nx ρ'
          | none => .bad) ρ1' = .exc x ρx := by unfold SM.bind; rw [q2]
        rw [z] at d1; exact (ExcW.back d1 s0).e
      | ok u ρ2 =>
        have z : SM.bind n (fun u ρ => match (put i r' ρ).bind (put j u) with
          | some ρ' => Res.ok Flw.nx ρ'
          | none => .bad) ρ1' = (match (put i r' ρ2).bind (put j u) with
          | some ρ' => Res.ok Flw.nx ρ'
          | none => .bad) := by unfold SM.bind; rw [q2]
        rw [z] at d1
        intro F2 H2 v2 s2 w2
        refine ⟨v, v2, rfl, ?_⟩
        have w1 := w0.fwd s2
        have s02 := s0.trans s2
        cases e1 : put i r' ρ2 with
        | none => rw [e1] at d1; exact d1.elim
        | some ρ3 =>
          rw [e1] at d1
          have p1 := Stp.put s02 w1 e1
          have d1 : (match put j u ρ3 with
            | some ρ' => Res.ok Flw.nx ρ'
            | none => .bad : Res Flw) = (match put j u ρ3 with
            | some ρ' => Res.ok Flw.nx ρ'
            | none => .bad : Res Flw) ∧ _ := ⟨rfl, d1⟩
          have d1 := d1.2
          dsimp only [Option.bind] at d1
          cases e2 : put j u ρ3 with
          | none => rw [e2] at d1; exact d1.elim
          | some ρ4 =>
            rw [e2] at d1
            refine d1 F2 H2 _ (Stp.put (v := v2) (r := u) p1 ?_ e2)
            have w3 := w2.back s0
            cases u with
            | un => exact w3
            | dat d => exact w3
            | own p mo =>
              cases p with
              | true => exact w3
              | false =>
                obtain ⟨a2, o2, ea, h0, h1, h3, h4, h5⟩ := w3
                refine ⟨a2, o2, ea, h0, h1, h3, h4, fun ⟨k, q, m', z1, z2⟩ => ?_⟩
                obtain ⟨_, _, rfl⟩ := put_some e1
                by_cases hk : k = i
                · subst hk
                  have hkl : k < ρ2.length := (put_some e1).2.1
                  rw [List.getElem?_set_self hkl] at z1
                  rw [List.getElem?_set_self (by rw [← s2.rep.len]; exact hkl)] at z2
                  cases z2
                  cases z1
                  cases q with
                  | true => exact w0.elim
                  | false =>
                    obtain ⟨a1, o1, ea1, _, _, y3, _, y5⟩ := w0
                    cases ea1
                    subst ea
                    obtain ⟨a3, o3, ea3, x0, _, _, _, _⟩ := w2
                    cases ea3
                    rcases x0 with x0 | x0
                    · rw [y3] at x0; cases x0
                    · exact y5 x0
                · rw [List.getElem?_set_ne (Ne.symm hk)] at z1 z2
                  exact h5 ⟨k, q, m', z1, z2⟩
end
end Cd

set_option Elab.async false
set_option linter.all false
set_option autoImplicit false
set_option maxRecDepth 100000
set_option maxHeartbeats 1000000
/-! Core8: what is walked; for, while, comprehensions. -/
namespace Cd
open PySem PySem.Spec L2

/-- the iterator J yields the data ds, one behind another -/
abbrev RIt (K : PySem.W.Frag) : Rl (List D) It := fun F _ ds J => ∀ (F1 H : Hp) (i : Nat), Same F F1 → Same F1 H →
  (∀ d, ds[i]? = some d → J.go i H ∧ ∀ x H', J.yld i H x H' → ∃ F2, Nw F1 H F2 H' ∧ Rp K F2 d x) ∧ (ds.length ≤ i → J.stop i H)
abbrev DI (X : Cx) (E : XK) (m : SM (List D)) : TI := den X.K X.mg E (RIt X.K) m
theorem PI.wk {X : Cx} {tg e : Expr} {t t' : TI} (h : PI X tg e t) (w : ∀ σ H Q, t' σ H Q → t σ H Q) : PI X tg e t' := ⟨fun pins s σ H Q I q => h.run pins s σ H Q I (w σ H Q q)⟩
def itL (m : SM D) : SM (List D) := SM.bind m fun d => match d with
  | .lst ds => SM.pure ds
  | .scr ns => SM.pure (ns.map .int)
  | _ => SM.bad
def itT (m : SM D) : SM (List D) := SM.bind m fun d => match d with
  | .tup ds => SM.pure ds
  | _ => SM.bad
def itS (m : SM D) : SM (List D) := SM.bind m fun d => match d with
  | .str x => SM.pure (x.cps.toList.map fun c => .str ⟨#[c]⟩)
  | _ => SM.bad
def rngD (lo : Int) (n : Nat) : List D := (List.range n).map fun (i : Nat) => D.int (lo + (i : Int))
def itR1 (m : SM (List D)) : SM (List D) := SM.bind m fun ds => match ds with
  | [.int j] => if -(2 ^ 62) ≤ j ∧ j < 2 ^ 62 then SM.pure (rngD 0 j.toNat) else SM.bad
  | _ => SM.bad
def itR2 (m : SM (List D)) : SM (List D) := SM.bind m fun ds => match ds with
  | [.int i, .int j] => if -(2 ^ 62) ≤ i ∧ i < 2 ^ 62 ∧ -(2 ^ 62) ≤ j ∧ j < 2 ^ 62 then SM.pure (rngD i (j - i).toNat) else SM.bad
  | _ => SM.bad
def enumD : Nat → List D → List D
  | _, [] => []
  | k, d :: r => .tup [.int k, d] :: enumD (k + 1) r
def itE (m : SM (List D)) : SM (List D) := SM.bind m fun ds => match ds with
  | [.lst a] => SM.pure (enumD 0 a)
  | _ => SM.bad
def zipD (a b : List D) : List D := List.zipWith (fun x y => .tup [x, y]) a b
def itZ (m : SM (List D)) : SM (List D) := SM.bind m fun ds => match ds with
  | [.lst a, .lst b] => SM.pure (zipD a b)
  | [.tup a, .tup b] => SM.pure (zipD a b)
  | _ => SM.bad
theorem enumD_get : ∀ (ds : List D) (k i : Nat), (enumD k ds)[i]? = (ds[i]?).map fun d => .tup [.int ((k + i : Nat) : Int), d]
  | [], k, i => by simp [enumD]
  | d :: r, k, 0 => by simp [enumD]
  | d :: r, k, i + 1 => by
    have := enumD_get r (k + 1) i
    simp only [enumD, List.getElem?_cons_succ]
    rw [this]
    have e : k + 1 + i = k + (i + 1) := by omega
    rw [e]
theorem enumD_len (ds : List D) : ∀ k, (enumD k ds).length = ds.length := by
  induction ds with
  | nil => intro k; rfl
  | cons d r ih => intro k; simp [enumD, ih]
section
variable {X : Cx} {E : XK} {tg l : Expr} {m : SM D} {ms : SM (List D)} {pos p : Pos}
theorem i_lst (h : PE X l (DE X E m)) : PI X tg l (DI X E (itL m)) := PI.wk (pi_list h) fun σ H Q h =>
  (den.bind (R := RD X.K) h).mono fun x H1 ⟨F1, ρ1, d, r, q⟩ => by
    cases d with
    | lst ds =>
      unfold Rp at r
      obtain ⟨a, vs, rfl, h1, h2⟩ := r
      refine ⟨a, rfl, ⟨vs, SqL.of (q.sub _ _ h1)⟩, q.pure0 fun F H i e1 e2 => ?_⟩
      have hs : SqL X.K H a vs := SqL.of (e2 _ _ (e1 _ _ h1))
      refine ⟨fun d hd => ?_, fun hl => ⟨vs, hs, by rw [h2.len]; exact hl⟩⟩
      obtain ⟨v, g1, g2⟩ := h2.get hd
      refine ⟨⟨vs, v, hs, g1⟩, fun x H' ⟨e, y⟩ => ?_⟩
      subst e
      have := y vs hs
      rw [g1] at this; cases this
      exact ⟨F, Nw.refl e2, g2.mono e1⟩
    | scr ns =>
      unfold Rp at r
      obtain ⟨a, rfl, h1⟩ := r
      refine ⟨a, rfl, ⟨_, q.sub.seq h1⟩, q.pure0 fun F H i e1 e2 => ?_⟩
      have hs : SqL X.K H a (ns.map V.int) := e2.seq (e1.seq h1)
      refine ⟨fun d hd => ?_, fun hl => ⟨_, hs, by simpa using hl⟩⟩
      rw [List.getElem?_map] at hd
      obtain ⟨n, hn, rfl⟩ := Option.map_eq_some_iff.mp hd
      have g1 : (ns.map V.int)[i]? = some (.int n) := by rw [List.getElem?_map, hn]; rfl
      refine ⟨⟨_, _, hs, g1⟩, fun x H' ⟨e, y⟩ => ?_⟩
      subst e
      have := y _ hs
      rw [g1] at this; cases this
      exact ⟨F, Nw.refl e2, by unfold Rp; rfl⟩
    | _ => exact q.bad.elim
theorem i_tup (h : PE X l (DE X E m)) : PI X tg l (DI X E (itT m)) := PI.wk (pi_tup h) fun σ H Q h =>
  (den.bind (R := RD X.K) h).mono fun x H1 ⟨F1, ρ1, d, r, q⟩ => by
    cases d with
    | tup ds =>
      unfold Rp at r
      obtain ⟨a, vs, rfl, h1, h2⟩ := r
      refine ⟨a, rfl, ⟨vs, same_t q.sub h1⟩, q.pure0 fun F H i e1 e2 => ?_⟩
      have hs : SqT X.K H a vs := same_t e2 (same_t e1 h1)
      refine ⟨fun d hd => ?_, fun hl => ⟨vs, hs, by rw [h2.len]; exact hl⟩⟩
      obtain ⟨v, g1, g2⟩ := h2.get hd
      refine ⟨⟨vs, v, hs, g1⟩, fun x H' ⟨e, y⟩ => ?_⟩
      subst e
      have := y vs hs
      rw [g1] at this; cases this
      exact ⟨F, Nw.refl e2, g2.mono e1⟩
    | _ => exact q.bad.elim
theorem i_str (h : PE X l (DE X E m)) : PI X tg l (DI X E (itS m)) := PI.wk (pi_str h) fun σ H Q h =>
  (den.bind (R := RD X.K) h).mono fun x H1 ⟨F1, ρ1, d, r, q⟩ => by
    cases d with
    | str z =>
      unfold Rp at r
      refine ⟨z, r, q.pure0 fun F H i e1 e2 => ⟨fun d hd => ?_, fun hl => (show z.cps.size ≤ i by simpa using hl)⟩⟩
      rw [List.getElem?_map] at hd
      obtain ⟨n, hn, rfl⟩ := Option.map_eq_some_iff.mp hd
      have hn' : z.cps[i]? = some n := by simpa using hn
      refine ⟨(Array.getElem?_eq_some_iff.mp hn').1, fun x H' ⟨e, c, y1, y2⟩ => ?_⟩
      subst e
      rw [hn'] at y1; cases y1
      exact ⟨F, Nw.refl e2, by unfold Rp; exact y2⟩
    | _ => exact q.bad.elim
theorem rng_it {K : PySem.W.Frag} {F : Hp} {σ : St} {lo : Int} {n : Nat} : RIt K F σ (rngD lo n) (Itr lo n) := fun F1 H i e1 e2 => by
  refine ⟨fun d hd => ?_, fun hl => (show n ≤ i by unfold rngD at hl; simpa using hl)⟩
  unfold rngD at hd
  rw [List.getElem?_map] at hd
  obtain ⟨k, hk, rfl⟩ := Option.map_eq_some_iff.mp hd
  obtain ⟨hl, hk'⟩ := List.getElem?_eq_some_iff.mp hk
  rw [List.getElem_range] at hk'
  subst hk'
  refine ⟨(show i < n by simpa using hl), fun x H' ⟨e, y⟩ => ?_⟩
  subst e
  exact ⟨F1, Nw.refl e2, by unfold Rp; exact y⟩
theorem i_rng1 {a : Expr} (hg : Gl X "range") (hm : X.mg "range" = none) (ha : PA X [a] (DL X E ms)) (hs : starEach [a] X.env = [(false, eval a X.env)] := by rfl) : PI X tg (.Call (.Name "range" p) [a] [] pos) (DI X E (itR1 ms)) := PI.wk (pi_range1 hg hm ha hs) fun σ H Q h =>
  (den.bind (R := RL X.K) h).mono fun x H1 ⟨F1, ρ1, ds, r, q⟩ => by
    have r : RpL X.K F1 ds x := r
    match ds, r, q with
    | [.int j], r, q =>
      unfold RpL at r
      obtain ⟨v, w, rfl, r1, r2⟩ := r
      unfold RpL at r2
      subst r2
      unfold Rp at r1
      by_cases hj : -(2 ^ 62) ≤ j ∧ j < 2 ^ 62
      · have q : denAt X.K X.mg E (RIt X.K) F1 ρ1 (if -(2 ^ 62) ≤ j ∧ j < 2 ^ 62 then SM.pure (rngD 0 j.toNat) else SM.bad) σ H1 Q := q
        rw [if_pos hj] at q
        exact ⟨j, by rw [r1], hj.1, hj.2, q.pure0 rng_it⟩
      · have q : denAt X.K X.mg E (RIt X.K) F1 ρ1 (if -(2 ^ 62) ≤ j ∧ j < 2 ^ 62 then SM.pure (rngD 0 j.toNat) else SM.bad) σ H1 Q := q
        rw [if_neg hj] at q
        exact q.bad.elim
    | [], r, q => exact q.bad.elim
    | .non :: _, r, q => exact q.bad.elim
    | .bl _ :: _, r, q => exact q.bad.elim
    | .str _ :: _, r, q => exact q.bad.elim
    | .lst _ :: _, r, q => exact q.bad.elim
    | .tup _ :: _, r, q => exact q.bad.elim
    | .dic _ _ :: _, r, q => exact q.bad.elim
    | .cst _ :: _, r, q => exact q.bad.elim
    | .scr _ :: _, r, q => exact q.bad.elim
    | .int _ :: _ :: _, r, q => exact q.bad.elim
theorem i_rng2 {a b : Expr} (hg : Gl X "range") (hm : X.mg "range" = none) (ha : PA X [a, b] (DL X E ms)) (hs : starEach [a, b] X.env = [(false, eval a X.env), (false, eval b X.env)] := by rfl) (hs2 : starEach [b] X.env = [(false, eval b X.env)] := by rfl) :
    PI X tg (.Call (.Name "range" p) [a, b] [] pos) (DI X E (itR2 ms)) := PI.wk (pi_range2 hg hm ha hs hs2) fun σ H Q h =>
  (den.bind (R := RL X.K) h).mono fun x H1 ⟨F1, ρ1, ds, r, q⟩ => by
    have r : RpL X.K F1 ds x := r
    have key : ∃ i j : Int, ds = [.int i, .int j] ∧ (-(2 ^ 62) ≤ i ∧ i < 2 ^ 62 ∧ -(2 ^ 62) ≤ j ∧ j < 2 ^ 62) ∧ denAt X.K X.mg E (RIt X.K) F1 ρ1 (SM.pure (rngD i (j - i).toNat)) σ H1 Q := by
      clear r
      revert q
      split
      · rename_i i j
        split
        · rename_i z; exact fun q => ⟨i, j, rfl, z, q⟩
        · exact fun q => q.bad.elim
      · exact fun q => q.bad.elim
    obtain ⟨i, j, rfl, z, q⟩ := key
    unfold RpL at r
    obtain ⟨v, w, rfl, r1, r2⟩ := r
    unfold RpL at r2
    obtain ⟨v2, w2, rfl, r3, r4⟩ := r2
    unfold RpL at r4
    unfold Rp at r1 r3
    subst r4 r1 r3
    exact ⟨i, j, rfl, z, q.pure0 rng_it⟩
theorem i_enum {e : Expr} {tpos : Pos} {elts : List Expr} {kk : Nat} (hg : Gl X "enumerate") (hm : X.mg "enumerate" = none) (ha : PA X [e] (DL X E ms)) (hs : starEach [e] X.env = [(false, eval e X.env)] := by rfl) :
    PI X (.Tuple elts kk tpos) (.Call (.Name "enumerate" p) [e] [] pos) (DI X E (itE ms)) := PI.wk (pi_enum hg hm ha hs) fun σ H Q h =>
  (den.bind (R := RL X.K) h).mono fun x H1 ⟨F1, ρ1, ds, r, q⟩ => by
    have r : RpL X.K F1 ds x := r
    have key : ∃ a, ds = [.lst a] ∧ denAt X.K X.mg E (RIt X.K) F1 ρ1 (SM.pure (enumD 0 a)) σ H1 Q := by
      clear r
      revert q
      split
      · exact fun q => ⟨_, rfl, q⟩
      · exact fun q => q.bad.elim
    obtain ⟨ds, rfl, q⟩ := key
    unfold RpL at r
    obtain ⟨v, w, rfl, r1, r2⟩ := r
    unfold RpL at r2
    subst r2
    unfold Rp at r1
    obtain ⟨a, vs, rfl, h1, h2⟩ := r1
    refine ⟨a, vs, rfl, SqL.of (q.sub _ _ h1), q.pure0 fun F H i e1 e2 => ?_⟩
    have hs : SqL X.K H a vs := SqL.of (e2 _ _ (e1 _ _ h1))
    refine ⟨fun d hd => ?_, fun hl => ⟨vs, hs, by rw [enumD_len] at hl; rw [h2.len]; exact hl⟩⟩
    rw [enumD_get] at hd
    obtain ⟨d0, hd0, rfl⟩ := Option.map_eq_some_iff.mp hd
    obtain ⟨v, g1, g2⟩ := h2.get hd0
    refine ⟨⟨vs, v, hs, g1⟩, fun x H' ⟨T, y, e, hT, eH, hy⟩ => ?_⟩
    subst e eH
    have := hy vs hs
    rw [g1] at this; cases this
    have n := Nw.new (o := .tup [.int (i : Nat), v]) e2 hT
    refine ⟨_, n, Rp.tupI upd_same (RpL.cons (by unfold Rp; rw [Nat.zero_add]) (RpL.cons ((g2.mono e1).mono n.ext) RpL.nil))⟩
theorem zip_get {α β γ : Type} (f : α → β → γ) : ∀ (a : List α) (b : List β) (i : Nat) (c : γ), (List.zipWith f a b)[i]? = some c → ∃ x y, a[i]? = some x ∧ b[i]? = some y ∧ c = f x y
  | [], b, i, c, h => by simp at h
  | _ :: _, [], i, c, h => by simp at h
  | x :: a, y :: b, 0, c, h => by simp at h; exact ⟨x, y, rfl, rfl, h.symm⟩
  | x :: a, y :: b, i + 1, c, h => by simpa using zip_get f a b i c (by simpa using h)
theorem i_zip {e e2 : Expr} {tpos : Pos} {elts : List Expr} {kk : Nat} (hg : Gl X "zip") (hm : X.mg "zip" = none) (ha : PA X [e, e2] (DL X E ms))
    (hs : starEach [e, e2] X.env = (false, eval e X.env) :: starEach [e2] X.env := by rfl) (hpl : (backTo pos (starEach [e2] X.env)).any (·.1) = false := by rfl) :
    PI X (.Tuple elts kk tpos) (.Call (.Name "zip" p) [e, e2] [] pos) (DI X E (itZ ms)) := PI.wk (RZ.pi_zipA hg hm ha hs hpl) fun σ H Q h =>
  (den.bind (R := RL X.K) h).mono fun x H1 ⟨F1, ρ1, ds, r, q⟩ => by
    have r : RpL X.K F1 ds x := r
    have key : ∃ a b, (ds = [.lst a, .lst b] ∨ ds = [.tup a, .tup b]) ∧ denAt X.K X.mg E (RIt X.K) F1 ρ1 (SM.pure (zipD a b)) σ H1 Q := by
      clear r
      revert q
      split
      · exact fun q => ⟨_, _, .inl rfl, q⟩
      · exact fun q => ⟨_, _, .inr rfl, q⟩
      · exact fun q => q.bad.elim
    obtain ⟨as, bs, hd, q⟩ := key
    rcases hd with rfl | rfl
    · unfold RpL at r
      obtain ⟨v, w, rfl, r1, r2⟩ := r
      unfold RpL at r2
      obtain ⟨v2, w2, rfl, r3, r4⟩ := r2
      unfold RpL at r4
      unfold Rp at r1 r3
      subst r4
      obtain ⟨a, vs, rfl, h1, h2⟩ := r1
      obtain ⟨b, ws, rfl, h3, h4⟩ := r3
      refine ⟨a, b, vs, ws, rfl, .inl ⟨SqL.of (q.sub _ _ h1), SqL.of (q.sub _ _ h3), q.pure0 fun F H i e1 e2 => ?_⟩⟩
      have hs : SqL X.K H a vs := SqL.of (e2 _ _ (e1 _ _ h1))
      have hs' : SqL X.K H b ws := SqL.of (e2 _ _ (e1 _ _ h3))
      refine ⟨fun d hd => ?_, fun hl => ⟨vs, ws, hs, hs', by unfold zipD at hl; rw [List.length_zipWith] at hl; rw [h2.len, h4.len]; omega⟩⟩
      obtain ⟨c1, c2, hc1, hc2, rfl⟩ := zip_get _ _ _ _ _ hd
      obtain ⟨u1, g1, g2⟩ := h2.get hc1
      obtain ⟨u2, g3, g4⟩ := h4.get hc2
      refine ⟨⟨vs, ws, u1, u2, hs, hs', g1, g3⟩, fun x H' ⟨T, y1, y2, e, hT, eH, hy1, hy2⟩ => ?_⟩
      subst e eH
      have := hy1 vs hs; rw [g1] at this; cases this
      have := hy2 ws hs'; rw [g3] at this; cases this
      have n := Nw.new (o := .tup [u1, u2]) e2 hT
      exact ⟨_, n, Rp.tupI upd_same (RpL.cons ((g2.mono e1).mono n.ext) (RpL.cons ((g4.mono e1).mono n.ext) RpL.nil))⟩
    · unfold RpL at r
      obtain ⟨v, w, rfl, r1, r2⟩ := r
      unfold RpL at r2
      obtain ⟨v2, w2, rfl, r3, r4⟩ := r2
      unfold RpL at r4
      unfold Rp at r1 r3
      subst r4
      obtain ⟨a, vs, rfl, h1, h2⟩ := r1
      obtain ⟨b, ws, rfl, h3, h4⟩ := r3
      refine ⟨a, b, vs, ws, rfl, .inr ⟨same_t q.sub h1, same_t q.sub h3, q.pure0 fun F H i e1 e2 => ?_⟩⟩
      have hs : SqT X.K H a vs := same_t e2 (same_t e1 h1)
      have hs' : SqT X.K H b ws := same_t e2 (same_t e1 h3)
      refine ⟨fun d hd => ?_, fun hl => ⟨vs, ws, hs, hs', by unfold zipD at hl; rw [List.length_zipWith] at hl; rw [h2.len, h4.len]; omega⟩⟩
      obtain ⟨c1, c2, hc1, hc2, rfl⟩ := zip_get _ _ _ _ _ hd
      obtain ⟨u1, g1, g2⟩ := h2.get hc1
      obtain ⟨u2, g3, g4⟩ := h4.get hc2
      refine ⟨⟨vs, ws, u1, u2, hs, hs', g1, g3⟩, fun x H' ⟨T, y1, y2, e, hT, eH, hy1, hy2⟩ => ?_⟩
      subst e eH
      have := hy1 vs hs; rw [g1] at this; cases this
      have := hy2 ws hs'; rw [g3] at this; cases this
      have n := Nw.new (o := .tup [u1, u2]) e2 hT
      exact ⟨_, n, Rp.tupI upd_same (RpL.cons ((g2.mono e1).mono n.ext) (RpL.cons ((g4.mono e1).mono n.ext) RpL.nil))⟩
end

/-! ### for -/
def loopF (T : Tg) (mb : SM Flw) : List D → SM Flw
  | [], ρ => .ok .nx ρ
  | d :: r, ρ => match T d ρ with
    | none => .bad
    | some ρ1 => match mb ρ1 with
      | .ok .nx ρ2 => loopF T mb r ρ2
      | .ok .ct ρ2 => loopF T mb r ρ2
      | .ok .bk ρ2 => .ok .nx ρ2
      | .ok (.ret v) ρ2 => .ok (.ret v) ρ2
      | .exc x ρ' => .exc x ρ'
      | .bad => .bad
def sFor (mi : SM (List D)) (T : Tg) (mb : SM Flw) : SM Flw := SM.bind mi (loopF T mb)
section
variable {X : Cx} {E : XK} {tg iter : Expr} {body : List Stmt} {mi : SM (List D)} {T : Tg} {mb : SM Flw} {pos : Pos} {is : List Nat}
theorem s_for (hp : PassesOwn (model X.prog X.w) X.A X.env X.xe) (hc : X.calm = true) (hi : PI X tg iter (DI X E mi)) (hg : PG X tg (DG X is T)) (hb : PSs X body (DS X E mb))
    (hs : ∀ x, foldedSetIterable iter X.env x = pure x := by intro _; rfl) : PS X (.For tg iter body [] pos) (DS X E (sFor mi T mb)) := PS.wk (ps_for hp hc hi hg hb hs) fun D σ H h => by
  refine (denS.bind (R := RIt X.K) h).mono fun J H1 ⟨F1, ρ1, ds, rit, q⟩ => ?_
  refine ⟨fun i m σ' H' => i ≤ ds.length ∧ m = ds.length - i ∧ ∃ F' ρ', Same F1 F' ∧ denSAt X.K X.mg E F' ρ' (loopF T mb (ds.drop i)) D σ' H', ⟨ds.length, Nat.zero_le _, rfl, F1, ρ1, Same.refl _, q⟩, ?_⟩
  rintro i m σ' H' ⟨hi1, rfl, F', ρ', e1, q1⟩
  have hr := rit F' H' i e1 q1.1.sub
  by_cases hlt : i < ds.length
  · have hd : ds[i]? = some ds[i] := List.getElem?_eq_getElem hlt
    have hdrop : ds.drop i = ds[i] :: ds.drop (i + 1) := List.drop_eq_getElem_cons hlt
    generalize ds[i] = d at hd hdrop
    obtain ⟨go, yl⟩ := hr.1 d hd
    rw [hdrop] at q1
    refine .inr ⟨go, fun σ2 H2 => ∃ F2 ρ2, Same F1 F2 ∧ denSAt X.K X.mg E F2 ρ2 (loopF T mb (ds.drop (i + 1))) D σ2 H2, fun σ2 H2 ⟨F2, ρ2, e2, q2⟩ => ⟨ds.length - (i + 1), by omega, hlt, rfl, F2, ρ2, e2, q2⟩, fun x H'' y => ?_⟩
    obtain ⟨F2, n, r2⟩ := yl x H'' y
    have q2 := q1.2
    cases eT : T d ρ' with
    | none =>
      have z : loopF T mb (d :: ds.drop (i + 1)) ρ' = .bad := by rw [loopF, eT]
      rw [z] at q2; exact q2.elim
    | some ρ2 =>
      have s1 := Stp.nw q1.1 n
      refine ⟨F2, ρ', d, ρ2, s1.rep, r2, eT, fun σ3 s3 _ => ⟨F2, ρ2, s3.rep, ?_⟩⟩
      have s13 := s1.trans s3
      cases eb : mb ρ2 with
      | bad =>
        have z : loopF T mb (d :: ds.drop (i + 1)) ρ' = .bad := by rw [loopF, eT]; dsimp only; rw [eb]
        rw [z] at q2; exact q2
      | exc x ρx =>
        have z : loopF T mb (d :: ds.drop (i + 1)) ρ' = .exc x ρx := by rw [loopF, eT]; dsimp only; rw [eb]
        rw [z] at q2; exact q2.back s13
      | ok fl ρ3 =>
        cases fl with
        | nx =>
          have z : loopF T mb (d :: ds.drop (i + 1)) ρ' = loopF T mb (ds.drop (i + 1)) ρ3 := by rw [loopF, eT]; dsimp only; rw [eb]
          exact fun F4 H4 σ4 s4 => ⟨F4, ρ3, (e1.trans n.ext).trans s4.ext, q1.step z (s13.trans s4)⟩
        | ct =>
          have z : loopF T mb (d :: ds.drop (i + 1)) ρ' = loopF T mb (ds.drop (i + 1)) ρ3 := by rw [loopF, eT]; dsimp only; rw [eb]
          exact fun F4 H4 σ4 s4 => ⟨F4, ρ3, (e1.trans n.ext).trans s4.ext, q1.step z (s13.trans s4)⟩
        | bk =>
          have z : loopF T mb (d :: ds.drop (i + 1)) ρ' = .ok .nx ρ3 := by rw [loopF, eT]; dsimp only; rw [eb]
          rw [z] at q2
          exact fun F4 H4 σ4 s4 => q2 F4 H4 σ4 (s13.trans s4)
        | ret r =>
          have z : loopF T mb (d :: ds.drop (i + 1)) ρ' = .ok (.ret r) ρ3 := by rw [loopF, eT]; dsimp only; rw [eb]
          rw [z] at q2
          exact fun F4 H4 σ4 v s4 w => q2 F4 H4 σ4 v (s13.trans s4) (w.back s13)
  · have e : i = ds.length := by omega
    subst e
    refine .inl ⟨hr.2 (Nat.le_refl _), ?_⟩
    have q2 := q1.2
    rw [List.drop_length] at q2
    exact q2 F' H' σ' (Stp.refl q1.1)

/-! ### while -/
def whileN (t : SM Bool) (mb : SM Flw) : Nat → SM Flw
  | 0, _ => .bad
  | n + 1, ρ => match t ρ with
    | .ok true ρ1 => match mb ρ1 with
      | .ok .nx ρ2 => whileN t mb n ρ2
      | .ok .ct ρ2 => whileN t mb n ρ2
      | .ok .bk ρ2 => .ok .nx ρ2
      | .ok (.ret v) ρ2 => .ok (.ret v) ρ2
      | .exc x ρ' => .exc x ρ'
      | .bad => .bad
    | .ok false ρ1 => .ok .nx ρ1
    | .exc x ρ' => .exc x ρ'
    | .bad => .bad
def sWhile (fuel : Rho → Nat) (t : SM Bool) (mb : SM Flw) : SM Flw := fun ρ => whileN t mb (fuel ρ) ρ
theorem s_while {c : Expr} {t : SM Bool} (fuel : Rho → Nat) (hp : PassesOwn (model X.prog X.w) X.A X.env X.xe) (hc : PT X c (DB X E t)) (hb : PSs X body (DS X E mb)) : PS X (.While c body [] pos) (DS X E (sWhile fuel t mb)) := PS.wk (ps_while hp hc hb) fun D σ H ⟨F, ρ, R, h⟩ => by
  refine ⟨fun n σ' H' => ∃ F' ρ', denSAt X.K X.mg E F' ρ' (whileN t mb n) D σ' H', ⟨fuel ρ, F, ρ, R, h⟩, ?_⟩
  rintro n σ' H' ⟨F', ρ', q1⟩
  have q2 := q1.2
  cases n with
  | zero => exact q2.elim
  | succ n =>
    refine ⟨F', ρ', q1.1, ?_⟩
    cases et : t ρ' with
    | bad =>
      have z : whileN t mb (n + 1) ρ' = .bad := by rw [whileN, et]
      rw [z] at q2; exact q2
    | exc x ρx =>
      have z : whileN t mb (n + 1) ρ' = .exc x ρx := by rw [whileN, et]
      rw [z] at q2; exact ExcW.e q2
    | ok b ρ1 =>
      intro F2 H2 b' s2 eb
      cases (show b = b' from eb)
      cases b with
      | false =>
        have z : whileN t mb (n + 1) ρ' = .ok .nx ρ1 := by rw [whileN, et]
        rw [z] at q2
        exact q2 F2 H2 σ' s2
      | true =>
        show ∃ N : St → Hp → Prop, _
        refine ⟨fun σ2 H2 => ∃ F' ρ', denSAt X.K X.mg E F' ρ' (whileN t mb n) D σ2 H2, fun σ2 H2 z => ⟨n, Nat.lt_succ_self _, z⟩, F2, ρ1, s2.rep, ?_⟩
        cases em : mb ρ1 with
        | bad =>
          have z : whileN t mb (n + 1) ρ' = .bad := by rw [whileN, et]; dsimp only; rw [em]
          rw [z] at q2; exact q2
        | exc x ρx =>
          have z : whileN t mb (n + 1) ρ' = .exc x ρx := by rw [whileN, et]; dsimp only; rw [em]
          rw [z] at q2; exact q2.back s2
        | ok fl ρ3 =>
          cases fl with
          | nx =>
            have z : whileN t mb (n + 1) ρ' = whileN t mb n ρ3 := by rw [whileN, et]; dsimp only; rw [em]
            exact fun F4 H4 σ4 s4 => ⟨F4, ρ3, q1.step z (s2.trans s4)⟩
          | ct =>
            have z : whileN t mb (n + 1) ρ' = whileN t mb n ρ3 := by rw [whileN, et]; dsimp only; rw [em]
            exact fun F4 H4 σ4 s4 => ⟨F4, ρ3, q1.step z (s2.trans s4)⟩
          | bk =>
            have z : whileN t mb (n + 1) ρ' = .ok .nx ρ3 := by rw [whileN, et]; dsimp only; rw [em]
            rw [z] at q2
            exact fun F4 H4 σ4 s4 => q2 F4 H4 σ4 (s2.trans s4)
          | ret r =>
            have z : whileN t mb (n + 1) ρ' = .ok (.ret r) ρ3 := by rw [whileN, et]; dsimp only; rw [em]
            rw [z] at q2
            exact fun F4 H4 σ4 v s4 w => q2 F4 H4 σ4 v (s2.trans s4) (w.back s2)
end
end Cd

set_option Elab.async false
set_option linter.all false
set_option autoImplicit false
set_option maxRecDepth 100000
set_option maxHeartbeats 1000000
/-! Core9: list comprehensions. -/
namespace Cd
open PySem PySem.Spec L2

def wipeR (ρ : Rho) : List Nat → Rho
  | [] => ρ
  | v :: vs => (wipeR ρ vs).set v .un
def okW (ρ : Rho) : List Nat → Bool
  | [] => true
  | v :: vs => (match ρ[v]? with
    | some (.own _ _) => false
    | _ => true) && okW ρ vs
def backR (ρ ρ0 : Rho) : List Nat → Rho
  | [] => ρ
  | v :: vs => match ρ0[v]? with
    | some w => (backR ρ ρ0 vs).set v w
    | none => backR ρ ρ0 vs
theorem wipeR_len (ρ : Rho) : ∀ vs, (wipeR ρ vs).length = ρ.length
  | [] => rfl
  | v :: vs => by unfold wipeR; rw [List.length_set, wipeR_len ρ vs]
theorem wipeR_in {ρ : Rho} {j : Nat} : ∀ {vs : List Nat}, j ∈ vs → ∀ w, (wipeR ρ vs)[j]? = some w → w = .un
  | [], h => by cases h
  | v :: vs, h => fun w e => by
    unfold wipeR at e
    by_cases hv : v = j
    · subst hv
      have hl := (List.getElem?_eq_some_iff.mp e).1
      rw [List.length_set] at hl
      rw [List.getElem?_set_self hl] at e
      exact (Option.some.inj e).symm
    · rw [List.getElem?_set_ne hv] at e
      rcases List.mem_cons.mp h with z | z
      · exact absurd z.symm hv
      · exact wipeR_in z w e
theorem wipeR_out {ρ : Rho} {j : Nat} : ∀ {vs : List Nat}, j ∉ vs → (wipeR ρ vs)[j]? = ρ[j]?
  | [], _ => rfl
  | v :: vs, h => by
    unfold wipeR
    rw [List.mem_cons, not_or] at h
    rw [List.getElem?_set_ne (Ne.symm h.1), wipeR_out h.2]
theorem wipe_out' {σ : St} {j : Nat} : ∀ {vs : List Nat}, j ∉ vs → (wipe σ vs)[j]? = σ[j]?
  | [], _ => rfl
  | v :: vs, h => by
    unfold wipe
    rw [List.mem_cons, not_or] at h
    rw [List.getElem?_set_ne (Ne.symm h.1), wipe_out' h.2]
theorem wipe_in {σ : St} {j : Nat} : ∀ {vs : List Nat}, j ∈ vs → ∀ w, (wipe σ vs)[j]? = some w → w = none
  | [], h => by cases h
  | v :: vs, h => fun w e => by
    unfold wipe at e
    by_cases hv : v = j
    · subst hv
      have hl := (List.getElem?_eq_some_iff.mp e).1
      rw [List.length_set] at hl
      rw [List.getElem?_set_self hl] at e
      exact (Option.some.inj e).symm
    · rw [List.getElem?_set_ne hv] at e
      rcases List.mem_cons.mp h with z | z
      · exact absurd z.symm hv
      · exact wipe_in z w e
theorem wipe_eq {σ σ' : St} {vs : List Nat} (hl : σ'.length = σ.length) (h : ∀ j, j ∉ vs → σ'[j]? = σ[j]?) : wipe σ' vs = wipe σ vs := by
  apply List.ext_getElem?
  intro j
  by_cases hj : j ∈ vs
  · by_cases hlt : j < σ.length
    · have a : j < (wipe σ' vs).length := by rw [wipe_length, hl]; exact hlt
      have b : j < (wipe σ vs).length := by rw [wipe_length]; exact hlt
      rw [List.getElem?_eq_getElem a, List.getElem?_eq_getElem b]
      rw [wipe_in hj _ (List.getElem?_eq_getElem a), wipe_in hj _ (List.getElem?_eq_getElem b)]
    · rw [List.getElem?_eq_none (by rw [wipe_length, hl]; omega), List.getElem?_eq_none (by rw [wipe_length]; omega)]
  · rw [wipe_out' hj, wipe_out' hj]
    exact h j hj
theorem wipe_wipe {σ : St} {vs : List Nat} : wipe (wipe σ vs) vs = wipe σ vs := wipe_eq (wipe_length _ _) fun j hj => wipe_out' hj
theorem okW_out {ρ : Rho} {j : Nat} {p : Bool} {m : MO} : ∀ {vs : List Nat}, okW ρ vs = true → ρ[j]? = some (Val.own p m) → j ∉ vs
  | [], _, _ => by simp
  | v :: vs, h, e => by
    unfold okW at h
    rw [Bool.and_eq_true] at h
    rw [List.mem_cons, not_or]
    refine ⟨?_, okW_out h.2 e⟩
    rintro rfl
    have := h.1
    rw [e] at this
    cases this
theorem backR_out {ρ ρ0 : Rho} {j : Nat} : ∀ {vs : List Nat}, j ∉ vs → (backR ρ ρ0 vs)[j]? = ρ[j]?
  | [], _ => rfl
  | v :: vs, h => by
    unfold backR
    rw [List.mem_cons, not_or] at h
    split
    · rw [List.getElem?_set_ne (Ne.symm h.1), backR_out h.2]
    · exact backR_out h.2
theorem backR_len (ρ ρ0 : Rho) : ∀ vs, (backR ρ ρ0 vs).length = ρ.length
  | [] => rfl
  | v :: vs => by
    unfold backR
    split
    · rw [List.length_set, backR_len ρ ρ0 vs]
    · exact backR_len ρ ρ0 vs
theorem backR_in {ρ ρ0 : Rho} {j : Nat} (hl : ρ.length = ρ0.length) : ∀ {vs : List Nat}, j ∈ vs → (backR ρ ρ0 vs)[j]? = ρ0[j]?
  | [], h => by cases h
  | v :: vs, h => by
    unfold backR
    by_cases hv : v = j
    · subst hv
      split
      · rename_i w e
        rw [List.getElem?_set_self (by rw [backR_len, hl]; exact (List.getElem?_eq_some_iff.mp e).1), e]
      · rename_i e
        rw [e]
        rw [List.getElem?_eq_none_iff] at e ⊢
        rw [backR_len, hl]; exact e
    · have hj : j ∈ vs := by
        rcases List.mem_cons.mp h with z | z
        · exact absurd z.symm hv
        · exact z
      split
      · rw [List.getElem?_set_ne hv]; exact backR_in hl hj
      · exact backR_in hl hj
section
variable {K : PySem.W.Frag} {F H F' H' : Hp} {σ σ' : St} {ρ ρ' ρ0 : Rho} {vs : List Nat}
theorem Rep.wipe (R : Rep K F H σ ρ) (vs : List Nat) : Rep K F H (L2.wipe σ vs) (wipeR ρ vs) := by
  have out : ∀ {j : Nat} {w : Val}, (wipeR ρ vs)[j]? = some w → w ≠ .un → j ∉ vs ∧ ρ[j]? = some w := fun {j w} e ne => by
    by_cases hj : j ∈ vs
    · exact (ne (wipeR_in hj w e)).elim
    · rw [wipeR_out hj] at e; exact ⟨hj, e⟩
  refine ⟨by rw [wipeR_len, wipe_length]; exact R.len, R.sub, R.tab, R.nt, fun i d e => ?_, fun i p m e => ?_, fun i j a p q m n h1 h2 h3 h4 => ?_⟩
  · obtain ⟨hi, e⟩ := out e (by simp)
    rw [wipe_out' hi]; exact R.dat i d e
  · obtain ⟨hi, e⟩ := out e (by simp)
    rw [wipe_out' hi]; exact R.own i p m e
  · obtain ⟨hi, e1⟩ := out h1 (by simp)
    obtain ⟨hj, e2⟩ := out h2 (by simp)
    rw [wipe_out' hi] at h3; rw [wipe_out' hj] at h4
    exact R.dis i j a p q m n e1 e2 h3 h4
theorem ow_wipe {b : Addr} (ok : okW ρ vs = true) : Ow (wipe σ vs) (wipeR ρ vs) b ↔ Ow σ ρ b := by
  constructor
  · rintro ⟨i, p, m, e1, e2⟩
    by_cases hi : i ∈ vs
    · cases wipeR_in hi _ e1
    · rw [wipeR_out hi] at e1; rw [wipe_out' hi] at e2
      exact ⟨i, p, m, e1, e2⟩
  · rintro ⟨i, p, m, e1, e2⟩
    have hi := okW_out ok e1
    exact ⟨i, p, m, by rw [wipeR_out hi]; exact e1, by rw [wipe_out' hi]; exact e2⟩
/-- the block's names are forgotten -/
theorem Stp.wipe (R : Rep K F H σ ρ) (ok : okW ρ vs = true) : Stp K F H σ ρ F H (L2.wipe σ vs) (wipeR ρ vs) := by
  refine ⟨R.wipe vs, Same.refl _, fun _ _ h _ _ => h, fun _ h => h, fun b o h1 h2 => (by rw [h2] at h1; cases h1), fun b h => .inl ((ow_wipe ok).mp h), fun i m h => ?_, fun i m h => ?_⟩
  · have hi := okW_out ok h
    exact ⟨⟨m, by rw [wipeR_out hi]; exact h⟩, wipe_out' hi⟩
  · by_cases hi : i ∈ vs
    · cases wipeR_in hi _ h
    · rw [wipeR_out hi] at h; exact ⟨m, h⟩
/-- back in the def -/
theorem Stp.unwipe (R : Rep K F H σ ρ) (ok : okW ρ vs = true) (s : Stp K F H (L2.wipe σ vs) (wipeR ρ vs) F' H' (L2.wipe σ vs) ρ') (ok' : okW ρ' vs = true) : Stp K F H σ ρ F' H' σ (backR ρ' ρ vs) := by
  have hl : ρ'.length = ρ.length := by have := s.rep.len; rw [wipe_length, ← R.len] at this; exact this
  have own : ∀ {j : Nat} {p : Bool} {m : MO}, (backR ρ' ρ vs)[j]? = some (Val.own p m) → j ∉ vs ∧ ρ'[j]? = some (Val.own p m) := fun {j p m} e => by
    by_cases hj : j ∈ vs
    · rw [backR_in hl hj] at e
      exact (okW_out ok e hj).elim
    · rw [backR_out hj] at e; exact ⟨hj, e⟩
  refine ⟨⟨by rw [backR_len, hl]; exact R.len, s.rep.sub, s.rep.tab, s.rep.nt, fun i d e => ?_, fun i p m e => ?_, fun i j a p q m n h1 h2 h3 h4 => ?_⟩, s.ext, fun b o h n nt => s.keep b o h (fun w => n ((ow_wipe ok).mp w)) nt, s.thr, fun b o h1 h2 => (s.frz b o h1 h2).imp id (ow_wipe ok).mp, fun b ⟨i, p, m, e1, e2⟩ => ?_, fun i m h => ?_, fun i m h => ?_⟩
  · by_cases hi : i ∈ vs
    · rw [backR_in hl hi] at e
      obtain ⟨v, z, r⟩ := R.dat i d e
      exact ⟨v, z, r.mono s.ext⟩
    · rw [backR_out hi] at e
      have := s.rep.dat i d e
      rw [wipe_out' hi] at this
      exact this
  · obtain ⟨hi, e⟩ := own e
    have := s.rep.own i p m e
    rw [wipe_out' hi] at this
    exact this
  · obtain ⟨hi, e1⟩ := own h1
    obtain ⟨hj, e2⟩ := own h2
    exact s.rep.dis i j a p q m n e1 e2 (by rw [wipe_out' hi]; exact h3) (by rw [wipe_out' hj]; exact h4)
  · obtain ⟨hi, e⟩ := own e1
    rcases s.own b ⟨i, p, m, e, by rw [wipe_out' hi]; exact e2⟩ with z | z
    · exact .inl ((ow_wipe ok).mp z)
    · exact .inr z
  · have hi := okW_out ok h
    obtain ⟨⟨m', h1⟩, _⟩ := s.par i m (by rw [wipeR_out hi]; exact h)
    exact ⟨⟨m', by rw [backR_out hi]; exact h1⟩, rfl⟩
  · obtain ⟨hi, e⟩ := own h
    obtain ⟨m0, h0⟩ := s.up i m e
    rw [wipeR_out hi] at h0
    exact ⟨m0, h0⟩
theorem Stp.mutFree {D : Addr} {xs ys : List V} (s : Stp K F H σ ρ F' H' σ' ρ') (h0 : H D = none) (h1 : F' D = none) (h2 : ¬ Ow σ' ρ' D) (h3 : H' D = some (.lst xs)) : Stp K F H σ ρ F' (upd H' D (.lst ys)) σ' ρ' := by
  refine ⟨⟨s.rep.len, fun b u e => by rw [upd_ne (ne_of_none e h1)]; exact s.rep.sub b u e, tabs_mut s.rep.tab h3 (fun _ z => by cases z) (fun _ z => by cases z), s.rep.nt, s.rep.dat, fun i p m e => ?_, s.rep.dis⟩, s.ext, fun b u e n nt => by rw [upd_ne (ne_of_none e h0)]; exact s.keep b u e n nt, fun b e => ?_, s.frz, s.own, s.par, s.up⟩
  · obtain ⟨a, u, e1, e2, e3, r⟩ := s.rep.own i p m e
    refine ⟨a, u, e1, e2, ?_, r⟩
    have ne : a ≠ D := fun z => h2 ⟨i, p, m, e, by rw [← z]; exact e1⟩
    rw [upd_ne ne]
    exact e3
  · by_cases hb : b = D
    · subst hb; exact h0
    · rw [upd_ne hb] at e; exact s.thr b e
end

def loopC (T : Tg) (mt : SM Bool) (me : SM D) (vs : List Nat) : List D → List D → SM (List D)
  | [], acc, ρ => .ok acc ρ
  | d :: r, acc, ρ => match T d ρ with
    | none => .bad
    | some ρ1 => match mt ρ1 with
      | .ok true ρ2 => match me ρ2 with
        | .ok y ρ3 => if acc.length < sizeLine ∧ okW ρ3 vs = true then loopC T mt me vs r (acc ++ [y]) (wipeR ρ3 vs) else .bad
        | _ => .bad
      | .ok false ρ2 => if okW ρ2 vs = true then loopC T mt me vs r acc (wipeR ρ2 vs) else .bad
      | _ => .bad
def lcEnd (T : Tg) (mt : SM Bool) (me : SM D) (vs : List Nat) (ds : List D) : SM Val := fun ρ => if okW ρ vs = true then match loopC T mt me vs ds [] (wipeR ρ vs) with
    | .ok acc ρ' => if okW ρ' vs = true then .ok (.own false (.lst acc)) (backR ρ' ρ vs) else .bad
    | _ => .bad
  else .bad
def eLc (vs : List Nat) (mi : SM (List D)) (T : Tg) (mt : SM Bool) (me : SM D) : SM Val := SM.bind mi fun ds => lcEnd T mt me vs ds
def bYes : SM Bool := SM.pure true
section
variable {X : Cx} {E : XK} {elt tg iter : Expr} {ifs : List Expr} {scope : Scope} {own : List (Str × Nat)} {pos : Pos} {mi : SM (List D)} {T : Tg} {mt : SM Bool} {me : SM D} {is : List Nat}
theorem PTs.wk {es : List Expr} {t t' : TT} (h : PTs X es t) (w : ∀ σ H Q, t' σ H Q → t σ H Q) : PTs X es t' := ⟨fun pins s σ H Q I q => h.run pins s σ H Q I (w σ H Q q)⟩
theorem ts_nil : PTs X [] (DB X E bYes) := PTs.wk pts_nil fun σ H Q ⟨F, ρ, h⟩ => h.pure0 rfl
theorem ts_one {c : Expr} (h : PT X c (DB X E mt)) : PTs X [c] (DB X E mt) := pts_one h
theorem lc_use {σ : St} {H : Hp} {Q : VK} (hsub : ∀ j ∈ is, j ∈ own.map (·.2)) (h : DV X E (eLc (own.map (·.2)) mi T mt me) σ H Q) : tLc (DI X E mi) (DG X is T) (DB X E0 mt) (DE X E0 me) (own.map (·.2)) σ H Q := by
  generalize hvs : own.map (·.2) = vs at h hsub ⊢
  refine (denV.bind (R := RIt X.K) h).mono fun J H1 ⟨F1, ρ1, ds, rit, q⟩ => ?_
  intro D hD
  have q2 := q.2
  have R1 := q.1
  unfold lcEnd at q2
  by_cases ok : okW ρ1 vs = true
  · rw [if_pos ok] at q2
    cases el : loopC T mt me vs ds [] (wipeR ρ1 vs) with
    | bad => rw [el] at q2; exact q2.elim
    | exc x ρx => rw [el] at q2; exact q2.elim
    | ok acc0 ρe =>
      rw [el] at q2
      dsimp only at q2
      by_cases ok2 : okW ρe vs = true
      · rw [if_pos ok2] at q2
        have hF1 : F1 D = none := R1.sub.free hD
        refine ⟨fun i m H' => i ≤ ds.length ∧ m = ds.length - i ∧ ∃ F' ρ' acc accv, Stp X.K F1 H1 (wipe σ vs) (wipeR ρ1 vs) F' H' (wipe σ vs) ρ' ∧ F' D = none ∧ H' D = some (.lst accv) ∧ RpL X.K F' acc accv ∧ ¬ Ow (wipe σ vs) ρ' D ∧ loopC T mt me vs (ds.drop i) acc ρ' = .ok acc0 ρe, ⟨ds.length, Nat.zero_le _, rfl, F1, wipeR ρ1 vs, [], [], Stp.nw (R1.wipe vs) (Nw.lay R1.sub hD), hF1, upd_same, RpL.nil, fun w => ?_, el⟩, ?_⟩
        · obtain ⟨_, o, z⟩ := (R1.wipe vs).ow_some w
          rw [hD] at z; cases z
        rintro i m H' ⟨hi1, rfl, F', ρ', acc, accv, s, fD, hD', ra, nD, e⟩
        have hr := rit F' H' i s.ext s.rep.sub
        by_cases hlt : i < ds.length
        · have hd : ds[i]? = some ds[i] := List.getElem?_eq_getElem hlt
          have hdrop : ds.drop i = ds[i] :: ds.drop (i + 1) := List.drop_eq_getElem_cons hlt
          generalize ds[i] = d at hd hdrop
          obtain ⟨go, yl⟩ := hr.1 d hd
          rw [hdrop] at e
          refine .inr ⟨go, fun H2 => ∃ F' ρ' acc accv, Stp X.K F1 H1 (wipe σ vs) (wipeR ρ1 vs) F' H2 (wipe σ vs) ρ' ∧ F' D = none ∧ H2 D = some (.lst accv) ∧ RpL X.K F' acc accv ∧ ¬ Ow (wipe σ vs) ρ' D ∧ loopC T mt me vs (ds.drop (i + 1)) acc ρ' = .ok acc0 ρe, fun H2 z => ⟨ds.length - (i + 1), by omega, hlt, rfl, z⟩, fun x H'' y => ?_⟩
          obtain ⟨F2, n, r2⟩ := yl x H'' y
          have s1 := Stp.nw s.rep n
          cases eT : T d ρ' with
          | none => rw [loopC, eT] at e; cases e
          | some ρ2 =>
            rw [loopC, eT] at e
            dsimp only at e
            refine ⟨F2, ρ', d, ρ2, s1.rep, r2, eT, fun σ3 s3 ⟨hl3, hn3⟩ => ?_⟩
            have hw : wipe σ3 vs = wipe σ vs := by
              rw [wipe_eq hl3 fun j hj => hn3 j fun z => hj (hsub j z), wipe_wipe]
            refine ⟨hw, F2, ρ2, s3.rep, ?_⟩
            have s13 := s1.trans s3
            -- the list stands through a step
            have still : ∀ {F4 H4 : Hp} {σ4 : St} {ρ4 : Rho}, Stp X.K F' H' (wipe σ vs) ρ' F4 H4 σ4 ρ4 → F4 D = none ∧ H4 D = some (.lst accv) ∧ ¬ Ow σ4 ρ4 D := fun {F4 H4 σ4 ρ4} s4 => by
              refine ⟨?_, s4.keep D _ hD' nD (fun _ z => by cases z), fun w => (s4.own D w).elim nD fun z => by rw [hD'] at z; cases z⟩
              cases z : F4 D with
              | none => rfl
              | some u =>
                rcases s4.frz D u z fD with y | y
                · rw [hD'] at y; cases y
                · exact (nD y).elim
            cases et : mt ρ2 with
            | bad => rw [et] at e; cases e
            | exc x ρx => rw [et] at e; cases e
            | ok b ρ3 =>
              rw [et] at e
              intro F3 H3 b' s4 eb
              cases (show b = b' from eb)
              have s14 := s13.trans s4
              cases b with
              | false =>
                dsimp only at e
                by_cases ok3 : okW ρ3 vs = true
                · rw [if_pos ok3] at e
                  obtain ⟨g1, g2, g3⟩ := still s14
                  have s5 := Stp.wipe (vs := vs) s14.rep ok3
                  rw [hw] at s5
                  have g3' : ¬ Ow (wipe σ vs) (wipeR ρ3 vs) D := fun w => g3 ((s5.own D w).elim id fun z => by rw [g2] at z; cases z)
                  exact ⟨F3, wipeR ρ3 vs, acc, accv, s.trans (s14.trans s5), g1, g2, ra.mono s14.ext, g3', e⟩
                · rw [if_neg ok3] at e; cases e
              | true =>
                dsimp only at e
                refine ⟨F3, ρ3, s14.rep, ?_⟩
                cases em : me ρ3 with
                | bad => rw [em] at e; cases e
                | exc x ρx => rw [em] at e; cases e
                | ok yd ρ4 =>
                  rw [em] at e
                  dsimp only at e
                  by_cases ok4 : acc.length < sizeLine ∧ okW ρ4 vs = true
                  · rw [if_pos ok4] at e
                    intro F4 H4 v s6 rv
                    have s16 := s14.trans s6
                    obtain ⟨g1, g2, g3⟩ := still s16
                    have s7 := Stp.wipe (vs := vs) s16.rep ok4.2
                    rw [hw] at s7
                    have g3' : ¬ Ow (wipe σ vs) (wipeR ρ4 vs) D := fun w => g3 ((s7.own D w).elim id fun z => by rw [g2] at z; cases z)
                    refine ⟨accv, g2, by rw [ra.len]; exact ok4.1, F4, wipeR ρ4 vs, acc ++ [yd], accv ++ [v], (s.trans (s16.trans s7)).mutFree hD g1 g3' g2, g1, upd_same, (ra.mono s16.ext).app (RpL.cons rv RpL.nil), g3', e⟩
                  · rw [if_neg ok4] at e; cases e
        · have ei : i = ds.length := by omega
          subst ei
          refine .inl ⟨hr.2 (Nat.le_refl _), ?_⟩
          rw [List.drop_length, loopC] at e
          cases e
          have su := Stp.unwipe R1 ok s ok2
          refine q2 F' H' (.ref D) su ⟨D, _, rfl, .inl hD, fD, hD', ⟨accv, rfl, ra⟩, fun w => ?_⟩
          obtain ⟨k, p, mo, z1, z2⟩ := w
          have hl : ρe.length = ρ1.length := by have := s.rep.len; rw [wipe_length, ← R1.len] at this; exact this
          by_cases hk : k ∈ vs
          · rw [backR_in hl hk] at z1
            exact okW_out ok z1 hk
          · rw [backR_out hk] at z1
            exact nD ⟨k, p, mo, z1, by rw [wipe_out' hk]; exact z2⟩
      · rw [if_neg ok2] at q2; exact q2.elim
  · rw [if_neg ok] at q2; exact q2.elim
/-- [elt for target in iter if ..] -/
theorem v_lc (hc : X.calm = true) (hN : X.N.Nodup) (hi : PI X tg iter (DI X E mi)) (ok : BlkOk X.N X.env.scope scope own) (hsub : ∀ j ∈ is, j ∈ own.map (·.2))
    (hg : ∀ (s : Shared) (H : Hp) (C : Addr) (cl : List (Str × Addr)) (fp : List Addr), PG (X.blk s H scope (compEnvC scope cl C X.env) fp) tg (DG X is T))
    (ht : ∀ (s : Shared) (H : Hp) (C : Addr) (cl : List (Str × Addr)) (fp : List Addr), PTs (X.blk s H scope (compEnvC scope cl C X.env) fp) ifs (DB X E0 mt))
    (he : ∀ (s : Shared) (H : Hp) (C : Addr) (cl : List (Str × Addr)) (fp : List Addr), PE (X.blk s H scope (compEnvC scope cl C X.env) fp) elt (DE X E0 me)) (hs : ∀ x, foldedSetIterable iter X.env x = pure x := by intro _; rfl) :
    PE X (.ListComp elt [⟨tg, iter, ifs, 0⟩] scope pos) (DV X E (eLc (own.map (·.2)) mi T mt me)) := PE.wk (pe_lc hc hN hi ok hg ht he hs) fun σ H Q h => lc_use hsub h
/-- name = [..], the name a local -/
theorem s_setLc {i : Nat} {y : Str} {py spos : Pos} (hc : X.calm = true) (hN : X.N.Nodup) (hy : X.N[i]? = some y) (hyl : X.env.scope.names.lookup y = some .local)
    (hsw : swapsWith (.ListComp elt [⟨tg, iter, ifs, 0⟩] scope pos) (some (.Name y py)) spos.line X.env = pure true) (hi : PI X tg iter (DI X E mi)) (ok : BlkOk X.N X.env.scope scope own) (hsub : ∀ j ∈ is, j ∈ own.map (·.2))
    (hg : ∀ (s : Shared) (H : Hp) (C : Addr) (cl : List (Str × Addr)) (fp : List Addr), PG (X.blk s H scope (compEnvC scope cl C X.env) fp) tg (DG X is T))
    (ht : ∀ (s : Shared) (H : Hp) (C : Addr) (cl : List (Str × Addr)) (fp : List Addr), PTs (X.blk s H scope (compEnvC scope cl C X.env) fp) ifs (DB X E0 mt))
    (he : ∀ (s : Shared) (H : Hp) (C : Addr) (cl : List (Str × Addr)) (fp : List Addr), PE (X.blk s H scope (compEnvC scope cl C X.env) fp) elt (DE X E0 me)) (hs : ∀ x, foldedSetIterable iter X.env x = pure x := by intro _; rfl) :
    PS X (.Assign [.Name y py] (.ListComp elt [⟨tg, iter, ifs, 0⟩] scope pos) spos) (DS X E (sSet i (eLc (own.map (·.2)) mi T mt me))) := PS.wk (ps_setLc hc hN hy hyl hsw hi ok hg ht he hs) fun D σ H h => lc_use hsub (set_use h)
end
end Cd

set_option Elab.async false
set_option linter.all false
set_option autoImplicit false
set_option maxRecDepth 100000
set_option maxHeartbeats 1000000
/-! Core10: built-ins, slices, changes of own lists, constants of the module, raise. -/
namespace Cd
open PySem PySem.Spec L2

/-! ### built-in functions of data -/
def CSem (K : PySem.W.Frag) (f : List D → Option D) (r : List V → Hp → VK → Prop) : Prop :=
  ∀ ds c, f ds = some c → ∀ (F H : Hp) (vs : List V) (Q : VK), Same F H → RpL K F ds vs → (∀ F' H' v, Nw F H F' H' → Rp K F' c v → Q v H') → r vs H Q
def eCB (f : List D → Option D) (ms : SM (List D)) : SM D := SM.bind ms fun ds => SM.opt (f ds)
section
variable {X : Cx} {E : XK} {e : Expr} {es : List Expr} {pos p : Pos} {x : Str} {r : List V → Hp → VK → Prop} {f : List D → Option D} {ms : SM (List D)}
theorem tCB_of (hs : CSem X.K f r) {σ : St} {H : Hp} {Q : VK} (h : DE X E (eCB f ms) σ H Q) : tCB r (DL X E ms) σ H Q :=
  (den.bind (R := RL X.K) h).mono fun vs H1 ⟨F1, ρ1, ds, rr, q⟩ => by
    cases z : f ds with
    | none => rw [z] at q; exact q.bad.elim
    | some c => rw [z] at q; exact hs ds c z F1 H1 vs Q q.sub rr fun F' H' v n rv => q.pure n rv
theorem e_callB {id : String} (hc : CallR X (.builtin id) r) (hs : CSem X.K f r) (hg : Gl X x) (hm : X.mg x = none) (hv : bootBuiltins x = some (.builtin id)) (ha : PA X (e :: es) (DL X E ms)) (hn : x ≠ "__name__" := by decide) (hdb : (x == ("__debug__" : Str)) = false := by decide)
    (he : starEach (e :: es) X.env = (false, eval e X.env) :: starEach es X.env := by rfl) (hpl : (backTo pos (starEach es X.env)).any (·.1) = false := by rfl) : PE X (.Call (.Name x p) (e :: es) [] pos) (DE X E (eCB f ms)) :=
  PE.wk (pe_callB hc hg hm hv ha hn hdb he hpl) fun σ H Q h => tCB_of hs h
theorem e_callTy {T : String} (hc : CallR X (.type T) r) (hs : CSem X.K f r) (hg : Gl X x) (hm : X.mg x = none) (hv : bootBuiltins x = some (.type T)) (ha : PA X (e :: es) (DL X E ms)) (hn : x ≠ "__name__" := by decide) (hdb : (x == ("__debug__" : Str)) = false := by decide)
    (he : starEach (e :: es) X.env = (false, eval e X.env) :: starEach es X.env := by rfl) (hpl : (backTo pos (starEach es X.env)).any (·.1) = false := by rfl) : PE X (.Call (.Name x p) (e :: es) [] pos) (DE X E (eCB f ms)) :=
  PE.wk (pe_callTy hc hg hm hv ha hn hdb he hpl) fun σ H Q h => tCB_of hs h
/-- a built-in type as a value -/
theorem e_ty {n : String} (hg : Gl X x) (hm : X.mg x = none) (hv : bootBuiltins x = some (.type n)) (hn : x ≠ "__name__" := by decide) (hd : (x == ("__debug__" : Str)) = false := by decide) : PE X (.Name x pos) (DE X E (eC (.cst (.ty n)))) :=
  e_c (pe_bltn (v := .ty n) hg hm hv rfl hn hd) fun F => by unfold Rp; rfl
/-- a name of the module that holds data -/
theorem e_glob {v : V} {u : Value} {d : D} (hg : Gl X x) (hm : X.mg x = some u) (r : RelV v u) (hr : ∀ F, Rp X.K F d v) (hd : (x == ("__debug__" : Str)) = false := by decide) : PE X (.Name x pos) (DE X E (eC d)) := e_c (pe_glob hg hm r hd) hr
end
section
variable {K : PySem.W.Frag}
theorem RpL.one {F : Hp} {d : D} {vs : List V} (h : RpL K F [d] vs) : ∃ v, vs = [v] ∧ Rp K F d v := by
  unfold RpL at h
  obtain ⟨v, r, rfl, h1, h2⟩ := h
  unfold RpL at h2
  subst h2
  exact ⟨v, rfl, h1⟩
theorem RpL.two {F : Hp} {d e : D} {vs : List V} (h : RpL K F [d, e] vs) : ∃ v w, vs = [v, w] ∧ Rp K F d v ∧ Rp K F e w := by
  unfold RpL at h
  obtain ⟨v, r, rfl, h1, h2⟩ := h
  obtain ⟨w, rfl, h3⟩ := RpL.one h2
  exact ⟨v, w, rfl, h1, h3⟩
def lenF : List D → Option D
  | [.lst ds] => some (.int ds.length)
  | [.tup ds] => some (.int ds.length)
  | [.scr ns] => some (.int ns.length)
  | [.str x] => if x.length ≤ sizeLine then some (.int x.length) else none
  | _ => none
abbrev rLenD (K : PySem.W.Frag) : List V → Hp → VK → Prop := fun xs H Q => ∃ x n, xs = [x] ∧ LenV K x H n ∧ Q (.int n) H
theorem c_len : CSem K lenF (rLenD K) := by
  intro ds c hc F H vs Q e r q
  have fin : ∀ {n : Nat}, c = .int n → Q (.int n) H := fun {n} z => by subst z; exact q F H _ (Nw.refl e) (by unfold Rp; rfl)
  unfold lenF at hc
  split at hc
  · cases hc
    obtain ⟨v, rfl, r1⟩ := r.one
    unfold Rp at r1
    obtain ⟨a, ws, rfl, h1, h2⟩ := r1
    exact ⟨_, ws.length, rfl, .inl ⟨ws, SqL.of (e _ _ h1), rfl⟩, fin (by rw [h2.len])⟩
  · cases hc
    obtain ⟨v, rfl, r1⟩ := r.one
    unfold Rp at r1
    obtain ⟨a, ws, rfl, h1, h2⟩ := r1
    exact ⟨_, ws.length, rfl, .inr ⟨ws, same_t e h1, rfl⟩, fin (by rw [h2.len])⟩
  · cases hc
    obtain ⟨v, rfl, r1⟩ := r.one
    unfold Rp at r1
    obtain ⟨a, rfl, h1⟩ := r1
    exact ⟨_, _, rfl, .inl ⟨_, e.seq h1, rfl⟩, fin (by rw [List.length_map])⟩
  · split at hc
    · rename_i x z
      cases hc
      obtain ⟨v, rfl, r1⟩ := r.one
      unfold Rp at r1
      subst r1
      exact ⟨_, x.length, rfl, ⟨z, rfl⟩, fin rfl⟩
    · cases hc
  · cases hc
/-- what type a value has -/
def D.ty : D → Option String
  | .non => some "NoneType" | .bl _ => some "bool" | .int _ => some "int" | .str _ => some "str"
  | .lst _ => some "list" | .tup _ => some "tuple" | .dic _ _ => some "dict" | .scr _ => none
  | .cst _ => none
def isiF : List D → Option D
  | [d, .cst (.ty n)] => d.ty.bind fun t => (kitB t n).map .bl
  | _ => none
theorem c_isi : CSem K isiF (rIsi K) := by
  intro ds c hc F H vs Q e r q
  unfold isiF at hc
  split at hc
  · rename_i d n
    obtain ⟨v, w, rfl, r1, r2⟩ := r.two
    unfold Rp at r2
    subst r2
    obtain ⟨t, ht, hb⟩ := Option.bind_eq_some_iff.mp hc
    obtain ⟨b, hb', rfl⟩ := Option.map_eq_some_iff.mp hb
    have ty : TyX K H v (.type t) := by
      cases d with
      | non => cases ht; unfold Rp at r1; subst r1; exact .base .non
      | bl x => cases ht; unfold Rp at r1; subst r1; exact .base (.bl x)
      | int x => cases ht; unfold Rp at r1; subst r1; exact .base (.int x)
      | str x => cases ht; unfold Rp at r1; subst r1; exact .base (.str x)
      | lst ds => cases ht; unfold Rp at r1; obtain ⟨a, ws, rfl, h1, _⟩ := r1; exact .base (.lst (e _ _ h1))
      | tup ds =>
        cases ht; unfold Rp at r1; obtain ⟨a, ws, rfl, h1, _⟩ := r1
        rcases same_t e h1 with (h | ⟨o, h⟩) | ⟨o, its, n, h, hcl, _⟩
        · exact .base (.tup h)
        · exact .fTuple h
        · exact .kTuple h hcl
      | dic ks ds => cases ht; unfold Rp at r1; obtain ⟨a, ws, rfl, h1, _⟩ := r1; exact .base (.dK (e _ _ h1))
      | cst v => cases ht
      | scr ns => cases ht
    exact ⟨v, .ty n, .type t, .type n, b, rfl, .ty n, ty, kit_ty hb', q F H _ (Nw.refl e) (by unfold Rp; rfl)⟩
  · cases hc
def absF : List D → Option D
  | [.int i] => some (.int (if i < 0 then -i else i))
  | _ => none
theorem c_abs : CSem K absF (fun xs H Q => ∃ i, xs = [.int i] ∧ Q (.int (if i < 0 then -i else i)) H) := by
  intro ds c hc F H vs Q e r q
  unfold absF at hc
  split at hc
  · cases hc
    obtain ⟨v, rfl, r1⟩ := r.one
    unfold Rp at r1; subst r1
    exact ⟨_, rfl, q F H _ (Nw.refl e) (by unfold Rp; rfl)⟩
  · cases hc
def maxF : List D → Option D
  | [.int i, .int j] => some (.int (if j > i then j else i))
  | _ => none
def minF : List D → Option D
  | [.int i, .int j] => some (.int (if j < i then j else i))
  | _ => none
theorem c_max : CSem K maxF (fun xs H Q => ∃ i j, xs = [.int i, .int j] ∧ Q (.int (if j > i then j else i)) H) := by
  intro ds c hc F H vs Q e r q
  unfold maxF at hc
  split at hc
  · cases hc
    obtain ⟨v, w, rfl, r1, r2⟩ := r.two
    unfold Rp at r1 r2; subst r1 r2
    exact ⟨_, _, rfl, q F H _ (Nw.refl e) (by unfold Rp; rfl)⟩
  · cases hc
theorem c_min : CSem K minF (fun xs H Q => ∃ i j, xs = [.int i, .int j] ∧ Q (.int (if j < i then j else i)) H) := by
  intro ds c hc F H vs Q e r q
  unfold minF at hc
  split at hc
  · cases hc
    obtain ⟨v, w, rfl, r1, r2⟩ := r.two
    unfold Rp at r1 r2; subst r1 r2
    exact ⟨_, _, rfl, q F H _ (Nw.refl e) (by unfold Rp; rfl)⟩
  · cases hc
def intF : List D → Option D
  | [.int i] => some (.int i)
  | [.bl b] => some (.int (if b then 1 else 0))
  | _ => none
theorem c_int : CSem K intF (fun xs H Q => (∃ i, xs = [.int i] ∧ Q (.int i) H) ∨ ∃ k, xs = [.bl k] ∧ Q (.int (if k then 1 else 0)) H) := by
  intro ds c hc F H vs Q e r q
  unfold intF at hc
  split at hc
  · cases hc
    obtain ⟨v, rfl, r1⟩ := r.one
    unfold Rp at r1; subst r1
    exact .inl ⟨_, rfl, q F H _ (Nw.refl e) (by unfold Rp; rfl)⟩
  · cases hc
    obtain ⟨v, rfl, r1⟩ := r.one
    unfold Rp at r1; subst r1
    exact .inr ⟨_, rfl, q F H _ (Nw.refl e) (by unfold Rp; rfl)⟩
  · cases hc
/-- tuple(..), list(..) -/
def tupF : List D → Option D
  | [.lst ds] => some (.tup ds)
  | [.tup ds] => some (.tup ds)
  | _ => none
theorem c_tup : CSem K tupF (fun xs H Q => ∃ p ys, xs = [.ref p] ∧ ((SqL K H p ys ∧ ∀ l, H l = none → Q (.ref l) (upd H l (.tup ys))) ∨ (SqT K H p ys ∧ Q (.ref p) H))) := by
  intro ds c hc F H vs Q e r q
  unfold tupF at hc
  split at hc
  · cases hc
    obtain ⟨v, rfl, r1⟩ := r.one
    unfold Rp at r1
    obtain ⟨a, ws, rfl, h1, h2⟩ := r1
    refine ⟨a, ws, rfl, .inl ⟨SqL.of (e _ _ h1), fun l hl => ?_⟩⟩
    have n := Nw.new (o := .tup ws) e hl
    exact q _ _ _ n (Rp.tupI upd_same (h2.mono n.ext))
  · cases hc
    obtain ⟨v, rfl, r1⟩ := r.one
    unfold Rp at r1
    obtain ⟨a, ws, rfl, h1, h2⟩ := r1
    exact ⟨a, ws, rfl, .inr ⟨same_t e h1, q F H _ (Nw.refl e) (by unfold Rp; exact ⟨a, ws, rfl, h1, h2⟩)⟩⟩
  · cases hc
def lstF : List D → Option D
  | [.lst ds] => some (.lst ds)
  | [.tup ds] => some (.lst ds)
  | _ => none
theorem c_lst : CSem K lstF (fun xs H Q => ∃ p ys, xs = [.ref p] ∧ (SqL K H p ys ∨ SqT K H p ys) ∧ ∀ l, H l = none → Q (.ref l) (upd H l (.lst ys))) := by
  intro ds c hc F H vs Q e r q
  unfold lstF at hc
  split at hc
  · cases hc
    obtain ⟨v, rfl, r1⟩ := r.one
    unfold Rp at r1
    obtain ⟨a, ws, rfl, h1, h2⟩ := r1
    refine ⟨a, ws, rfl, .inl (SqL.of (e _ _ h1)), fun l hl => ?_⟩
    have n := Nw.new (o := .lst ws) e hl
    exact q _ _ _ n (Rp.lstI upd_same (h2.mono n.ext))
  · cases hc
    obtain ⟨v, rfl, r1⟩ := r.one
    unfold Rp at r1
    obtain ⟨a, ws, rfl, h1, h2⟩ := r1
    refine ⟨a, ws, rfl, .inr (same_t e h1), fun l hl => ?_⟩
    have n := Nw.new (o := .lst ws) e hl
    exact q _ _ _ n (Rp.lstI upd_same (h2.mono n.ext))
  · cases hc
end

/-! ### -x -/
def eUn (f : D → Option D) (m : SM D) : SM D := SM.bind m fun d => SM.opt (f d)
def negD : D → Option D
  | .int i => some (.int (-i))
  | _ => none
section
variable {X : Cx} {E : XK} {a : Expr} {pos p2 : Pos} {m : SM D}
theorem e_neg (h : PE X a (DE X E m)) : PE X (.UnaryOp .USub a pos) (DE X E (eUn negD m)) := PE.wk (pe_un un_neg h) fun σ H Q h =>
  (den.bind (R := RD X.K) h).mono fun x H1 ⟨F1, ρ1, d, r, q⟩ => by
    cases d with
    | int i => unfold Rp at r; exact ⟨i, r, q.pure0 (by unfold Rp; rfl)⟩
    | _ => exact q.bad.elim

/-! ### slices -/
def cutD {α : Type} (xs : List α) (lo hi : Option Int) : List α := (xs.drop (HT.sIx xs.length 0 lo)).take (HT.sIx xs.length xs.length hi - HT.sIx xs.length 0 lo)
def slD : D → Option Int → Option Int → Option D
  | .tup ds, lo, hi => some (.tup (cutD ds lo hi))
  | .lst ds, lo, hi => some (.lst (cutD ds lo hi))
  | .str x, lo, hi => if x.length ≤ sizeLine then some (.str (cutS x lo hi)) else none
  | _, _, _ => none
def pNone : SM (Option Int) := SM.pure none
def pSome (m : SM D) : SM (Option Int) := SM.bind m fun d => match d with
  | .int i => SM.pure (some i)
  | _ => SM.bad
def eSl (m : SM D) (l h : SM (Option Int)) : SM D := SM.bind m fun d => SM.bind l fun lo => SM.bind h fun hi => SM.opt (slD d lo hi)
theorem p_none : PO X none (DO X E pNone) := PO.wk po_none fun σ H Q ⟨F, ρ, h⟩ => h.pure0 rfl
theorem p_some {e : Expr} (h : PE X e (DE X E m)) : PO X (some e) (DO X E (pSome m)) := PO.wk (po_some h) fun σ H Q h =>
  (den.bind (R := RD X.K) h).mono fun x H1 ⟨F1, ρ1, d, r, q⟩ => by
    cases d with
    | int i => unfold Rp at r; exact ⟨i, r, q.pure0 rfl⟩
    | _ => exact q.bad.elim
def rSlD (K : PySem.W.Frag) : V → Option Int → Option Int → Hp → VK → Prop := fun x lo hi H Q => rSlA K x lo hi H Q ∨ rSlL K x lo hi H Q ∨ (∃ z, x = .str z ∧ z.length ≤ sizeLine ∧ Q (.str (cutS z lo hi)) H)
theorem sl_all (hstr : SlR X (fun x lo hi H Q => ∃ z, x = .str z ∧ z.length ≤ sizeLine ∧ Q (.str (cutS z lo hi)) H)) : SlR X (rSlD X.K) := SlR.or sl_tupA (SlR.or sl_list hstr)
theorem cut_cut (vs : List V) (lo hi : Option Int) : cutV vs lo hi = cutD vs lo hi := rfl
theorem RpL.cut {K : PySem.W.Frag} {F : Hp} {ds : List D} {vs : List V} (r : RpL K F ds vs) (lo hi : Option Int) : RpL K F (cutD ds lo hi) (cutV vs lo hi) := by
  unfold cutD cutV
  rw [r.len]
  exact (r.drop _).take _
theorem e_sl {e : Expr} {lo hi : Option Expr} {l h : SM (Option Int)} (hr : SlR X (rSlD X.K)) (he : PE X e (DE X E m)) (hl : PO X lo (DO X E l)) (hh : PO X hi (DO X E h)) : PE X (.Subscript e (.Slice lo hi none p2) pos) (DE X E (eSl m l h)) := PE.wk (pe_slice hr he hl hh) fun σ H Q hq =>
  (den.bind (R := RD X.K) hq).mono fun x H1 ⟨F1, ρ1, d, r, q⟩ => ((denAt.bind (R := RO) q).mono fun y H2 ⟨F2, ρ2, lo', r2, ex2, q2⟩ => ((denAt.bind (R := RO) q2).mono fun z H3 ⟨F3, ρ3, hi', r3, ex3, q3⟩ => by
    cases (show lo' = y from r2)
    cases (show hi' = z from r3)
    have r := (Rp.mono (ex2.trans ex3) r : Rp X.K F3 d x)
    cases e : slD d y z with
    | none => rw [e] at q3; exact q3.bad.elim
    | some c =>
      rw [e] at q3
      cases d with
      | tup ds =>
        cases e
        unfold Rp at r
        obtain ⟨a, vs, rfl, h1, h2⟩ := r
        refine .inl ⟨a, vs, rfl, same_t q3.sub h1, fun ⟨w1, w2⟩ => ?_, fun _ p hp => ?_⟩
        · refine q3.pure0 ?_
          have : cutD ds y z = ds := by
            unfold cutD
            rw [← h2.len, w1, w2, h2.len]
            simp
          rw [this]
          show Rp X.K F3 (.tup ds) (.ref a)
          unfold Rp
          exact ⟨a, vs, rfl, h1, h2⟩
        · have n := Nw.new (o := .tup (cutV vs y z)) q3.sub hp
          exact q3.pure n (Rp.tupI upd_same ((h2.cut y z).mono n.ext))
      | lst ds =>
        cases e
        unfold Rp at r
        obtain ⟨a, vs, rfl, h1, h2⟩ := r
        refine .inr (.inl ⟨a, vs, rfl, SqL.of (q3.sub _ _ h1), fun p hp => ?_⟩)
        have n := Nw.new (o := .lst (cutV vs y z)) q3.sub hp
        exact q3.pure n (Rp.lstI upd_same ((h2.cut y z).mono n.ext))
      | str w =>
        unfold Rp at r
        have e : (if w.length ≤ sizeLine then some (D.str (cutS w y z)) else none) = some c := e
        split at e
        · rename_i hz
          cases e
          exact .inr (.inr ⟨w, r, hz, q3.pure0 (by show Rp _ _ _ _; unfold Rp; rfl)⟩)
        · cases e
      | _ => cases e).of).of
end

/-! ### own lists -/
def ckO {α : Type} (i : Nat) (m : SM α) : SM α := fun ρ => match ρ[i]? with
  | some (.own _ _) => m ρ
  | _ => .bad
theorem ckO_own {α : Type} {i : Nat} {m : SM α} {ρ : Rho} (h : ckO i m ρ ≠ .bad) : (∃ p mo, ρ[i]? = some (Val.own p mo)) ∧ ckO i m ρ = m ρ := by
  unfold ckO at h ⊢
  cases e : ρ[i]? with
  | none => rw [e] at h; exact (h rfl).elim
  | some w =>
    cases w with
    | own p mo => exact ⟨⟨p, mo, rfl⟩, rfl⟩
    | un => rw [e] at h; exact (h rfl).elim
    | dat d => rw [e] at h; exact (h rfl).elim
theorem denAt.nb {α β : Type} {K : PySem.W.Frag} {mg : Str → Option Value} {E : XK} {R : Rl α β} {F H : Hp} {ρ : Rho} {σ : St} {m : SM α} {Q : β → Hp → Prop} (h : denAt K mg E R F ρ m σ H Q) : m ρ ≠ .bad := fun z => by
  have h2 := h.2
  rw [z] at h2; exact h2
theorem denSAt.nb {K : PySem.W.Frag} {mg : Str → Option Value} {E : XK} {F H : Hp} {ρ : Rho} {σ : St} {m : SM Flw} {D : Ends} (h : denSAt K mg E F ρ m D σ H) : m ρ ≠ .bad := fun z => by
  have h2 := h.2
  rw [z] at h2; exact h2
theorem denAt.to {α β : Type} {K : PySem.W.Frag} {mg : Str → Option Value} {E : XK} {R : Rl α β} {F H : Hp} {ρ : Rho} {σ : St} {m m' : SM α} {Q : β → Hp → Prop} (h : denAt K mg E R F ρ m σ H Q) (e : m ρ = m' ρ) : denAt K mg E R F ρ m' σ H Q := by
  refine ⟨h.1, ?_⟩
  rw [← e]; exact h.2
theorem denSAt.to {K : PySem.W.Frag} {mg : Str → Option Value} {E : XK} {F H : Hp} {ρ : Rho} {σ : St} {m m' : SM Flw} {D : Ends} (h : denSAt K mg E F ρ m D σ H) (e : m ρ = m' ρ) : denSAt K mg E F ρ m' D σ H := by
  refine ⟨h.1, ?_⟩
  rw [← e]; exact h.2
theorem denSAt.bind {α β : Type} {K : PySem.W.Frag} {mg : Str → Option Value} {E : XK} {R : Rl α β} {F H : Hp} {ρ : Rho} {σ : St} {D : Ends} {m : SM α} {k : α → SM Flw} (h' : denSAt K mg E F ρ (SM.bind m k) D σ H) : denAt K mg E R F ρ m σ H (fun b H1 => ∃ F1 ρ1 a, R F1 σ a b ∧ Stp K F H σ ρ F1 H1 σ ρ1 ∧ denSAt K mg E F1 ρ1 (k a) D σ H1) := by
  refine ⟨h'.1, ?_⟩
  cases e : m ρ with
  | bad => have z : SM.bind m k ρ = .bad := by unfold SM.bind; rw [e]
           have h2 := h'.2; rw [z] at h2; exact h2
  | exc x ρx =>
    have z : SM.bind m k ρ = .exc x ρx := by unfold SM.bind; rw [e]
    have h2 := h'.2; rw [z] at h2; exact ExcW.e h2
  | ok a ρ1 =>
    have z : SM.bind m k ρ = k a ρ1 := by unfold SM.bind; rw [e]
    exact fun F1 H1 b s r => ⟨F1, ρ1, a, r, s, h'.step z s⟩
section
variable {K : PySem.W.Frag} {F H : Hp} {σ : St} {ρ : Rho} {i : Nat}
/-- a slot's own object changes -/
theorem Stp.mutOwn {p : Bool} {m m' : MO} {a : Addr} {o o' : HO} (R : Rep K F H σ ρ) (h : ρ[i]? = some (Val.own p m)) (e1 : σ[i]? = some (some (V.ref a))) (e2 : F a = none) (e3 : H a = some o) (r0 : MRp K F m o) (r : MRp K F m' o') :
    Stp K F H σ ρ F (upd H a o') σ (ρ.set i (.own p m')) := by
  have hi : i < ρ.length := (List.getElem?_eq_some_iff.mp h).1
  have at_i : (ρ.set i (Val.own p m'))[i]? = some (Val.own p m') := List.getElem?_set_self hi
  have own' : ∀ (j : Nat) (q : Bool) (n : MO), (ρ.set i (Val.own p m'))[j]? = some (Val.own q n) → ∃ n0, ρ[j]? = some (Val.own q n0) := fun j q n e => by
    by_cases hj : j = i
    · subst hj; rw [at_i] at e; cases e; exact ⟨m, h⟩
    · rw [ne_get hj] at e; exact ⟨n, e⟩
  refine ⟨⟨by rw [List.length_set]; exact R.len, fun b u q => by rw [upd_ne (ne_of_none q e2)]; exact R.sub b u q, tabs_mut R.tab e3 r0.nt r0.nx, R.nt, fun j d q => ?_, fun j q n e => ?_, fun j k c q q' n n' h1 h2 h3 h4 => ?_⟩, Same.refl _, fun b u q n _ => ?_, fun b q => ?_, fun b u q z => (by rw [z] at q; cases q), fun b ⟨j, q, n, z1, z2⟩ => ?_, fun j n q => ?_, fun j n q => own' j true n q⟩
  · by_cases hj : j = i
    · subst hj; rw [at_i] at q; cases q
    · rw [ne_get hj] at q; exact R.dat j d q
  · by_cases hj : j = i
    · subst hj; rw [at_i] at e; cases e
      exact ⟨a, o', e1, e2, upd_same, r⟩
    · rw [ne_get hj] at e
      obtain ⟨b, u, z1, z2, z3, z4⟩ := R.own j q n e
      refine ⟨b, u, z1, z2, ?_, z4⟩
      rw [upd_ne (fun z => hj (R.dis j i b _ _ _ _ e h z1 (by rw [e1, z])))]
      exact z3
  · obtain ⟨n0, x1⟩ := own' _ _ _ h1
    obtain ⟨n1, x2⟩ := own' _ _ _ h2
    exact R.dis j k c _ _ _ _ x1 x2 h3 h4
  · have hb : b ≠ a := fun z => n ⟨i, p, m, h, by rw [e1, z]⟩
    rw [upd_ne hb]; exact q
  · by_cases hb : b = a
    · subst hb; rw [upd_same] at q; cases q
    · rw [upd_ne hb] at q; exact q
  · obtain ⟨n0, x1⟩ := own' _ _ _ z1
    exact .inl ⟨j, q, n0, x1, z2⟩
  · by_cases hj : j = i
    · subst hj
      rw [h] at q; cases q
      exact ⟨⟨m', at_i⟩, rfl⟩
    · exact ⟨⟨n, by rw [ne_get hj]; exact q⟩, rfl⟩
end
section
variable {X : Cx} {E : XK} {e b : Expr} {pos pos' : Pos} {x : Str} {m : SM D}
/-- x[k], x an own list -/
def ixOwn (ρ : Rho) (i : Nat) (d : D) : Option D := match ρ[i]?, d with
  | some (.own _ (.lst ds)), .int k => atI ds k
  | _, _ => none
theorem ixOwn_some {ρ : Rho} {i : Nat} {d c : D} (h : ixOwn ρ i d = some c) : ∃ p ds k, ρ[i]? = some (Val.own p (.lst ds)) ∧ d = .int k ∧ atI ds k = some c := by
  unfold ixOwn at h
  split at h
  · rename_i p ds k hk; exact ⟨p, ds, k, hk, rfl, h⟩
  · cases h
def getO (i : Nat) (d : D) : SM D := fun ρ => match ixOwn ρ i d with
  | some c => .ok c ρ
  | none => .bad
def eIxO (i : Nat) (m : SM D) : SM D := ckO i (SM.bind m (getO i))
theorem e_ixO (i : Nat) (hN : X.N[i]? = some x) (hv : Vis X.env.scope x) (hb : PE X b (DE X E m)) (hp : PlainIx b) (hd : (x == ("__debug__" : Str)) = false := by decide) (hcd : (x == ("__classdict__" : Str)) = false := by decide) :
    PE X (.Subscript (.Name x pos') b pos) (DE X E (eIxO i m)) := PE.wk (pe_ix ix_list (pe_var hN hv hd hcd) hb hp) fun σ H Q ⟨F, ρ, h⟩ => by
  obtain ⟨⟨p, mo, ho⟩, e⟩ := ckO_own h.nb
  obtain ⟨a, o, e1, _⟩ := h.1.own i p mo ho
  refine ⟨_, e1, ((denAt.bind (R := RD X.K) (h.to e)).mono fun y H2 ⟨F2, ρ2, d, r2, ex, q2⟩ => ?_).of⟩
  have z := q2.2
  unfold getO at z
  cases hat : ixOwn ρ2 i d with
  | none => rw [hat] at z; exact z.elim
  | some c =>
    rw [hat] at z
    obtain ⟨q3, ds, k, hk, rfl, hat2⟩ := ixOwn_some hat
    obtain ⟨a', o', y1, y2, y3, y4⟩ := q2.1.own i _ _ hk
    rw [e1] at y1; cases y1
    obtain ⟨vs, rfl, hr⟩ := y4
    obtain ⟨v, g1, g2⟩ := hr.atI hat2
    unfold Rp at r2
    exact ⟨a, vs, k, v, rfl, r2, SqL.of y3, g1, z F2 H2 v (Stp.refl q2.1) g2⟩
/-- len(x), x an own list -/
def lenOwn (ρ : Rho) (i : Nat) : Option D := match ρ[i]? with
  | some (.own _ (.lst ds)) => some (.int ds.length)
  | _ => none
theorem lenOwn_some {ρ : Rho} {i : Nat} {c : D} (h : lenOwn ρ i = some c) : ∃ p ds, ρ[i]? = some (Val.own p (.lst ds)) ∧ c = .int ds.length := by
  unfold lenOwn at h
  split at h
  · rename_i p ds hk; cases h; exact ⟨p, ds, hk, rfl⟩
  · cases h
def eLenO (i : Nat) : SM D := fun ρ => match lenOwn ρ i with
  | some c => .ok c ρ
  | none => .bad
theorem e_lenO (i : Nat) {p : Pos} (hN : X.N[i]? = some x) (hv : Vis X.env.scope x) (hg : Gl X "len") (hm : X.mg "len" = none) (hd : (x == ("__debug__" : Str)) = false := by decide) (hcd : (x == ("__classdict__" : Str)) = false := by decide)
    (hs : starEach [.Name x pos'] X.env = (false, eval (.Name x pos') X.env) :: starEach [] X.env := by rfl) (hpl : (backTo pos (starEach [] X.env)).any (·.1) = false := by rfl) :
    PE X (.Call (.Name "len" p) [.Name x pos'] [] pos) (DE X E (eLenO i)) := PE.wk (pe_callB call_len_seq hg hm PySem.boot_len (pa_cons (pe_var hN hv hd hcd) pa_nil hs) (by decide) (by decide) hs hpl) fun σ H Q ⟨F, ρ, h⟩ => by
  have z := h.2
  unfold eLenO at z
  cases hat : lenOwn ρ i with
  | none => rw [hat] at z; exact z.elim
  | some c =>
    rw [hat] at z
    obtain ⟨q, ds, hk, rfl⟩ := lenOwn_some hat
    obtain ⟨a, o, y1, y2, y3, y4⟩ := h.1.own i _ _ hk
    obtain ⟨vs, rfl, hr⟩ := y4
    refine ⟨_, y1, a, vs, rfl, .inl (SqL.of y3), ?_⟩
    exact z F H _ (Stp.refl h.1) (by show Rp _ _ _ _; unfold Rp; rw [hr.len])
/-- x.append(e) -/
def appOwn (ρ : Rho) (i : Nat) (d : D) : Option Rho := match ρ[i]? with
  | some (.own p (.lst ds)) => if ds.length < sizeLine then some (ρ.set i (.own p (.lst (ds ++ [d])))) else none
  | _ => none
theorem appOwn_some {ρ ρ' : Rho} {i : Nat} {d : D} (h : appOwn ρ i d = some ρ') : ∃ p ds, ρ[i]? = some (Val.own p (.lst ds)) ∧ ds.length < sizeLine ∧ ρ' = ρ.set i (.own p (.lst (ds ++ [d]))) := by
  unfold appOwn at h
  split at h
  · rename_i p ds hk
    split at h
    · rename_i z; cases h; exact ⟨p, ds, hk, z, rfl⟩
    · cases h
  · cases h
def ofO (f : Rho → Option Rho) : SM Flw := fun ρ => match f ρ with
  | some ρ' => .ok .nx ρ'
  | none => .bad
def isL (ρ : Rho) (i : Nat) : Bool := match ρ[i]? with
  | some (.own _ (.lst _)) => true
  | _ => false
theorem isL_some {ρ : Rho} {i : Nat} (h : isL ρ i = true) : ∃ p ds, ρ[i]? = some (Val.own p (.lst ds)) := by
  unfold isL at h
  split at h
  · rename_i p ds hk; exact ⟨p, ds, hk⟩
  · cases h
def ckL {α : Type} (i : Nat) (m : SM α) : SM α := fun ρ => if isL ρ i = true then m ρ else .bad
theorem ckL_own {α : Type} {i : Nat} {m : SM α} {ρ : Rho} (h : ckL i m ρ ≠ .bad) : (∃ p ds, ρ[i]? = some (Val.own p (.lst ds))) ∧ ckL i m ρ = m ρ := by
  unfold ckL at h ⊢
  by_cases z : isL ρ i = true
  · rw [if_pos z]; exact ⟨isL_some z, rfl⟩
  · rw [if_neg z] at h; exact (h rfl).elim
def sApp (i : Nat) (m : SM D) : SM Flw := ckL i (SM.bind m fun d => ofO fun ρ => appOwn ρ i d)
theorem s_app (i : Nat) {apos cpos : Pos} (hN : X.N[i]? = some x) (hv : Vis X.env.scope x) (he : PE X e (DE X E m)) (hd : (x == ("__debug__" : Str)) = false := by decide) (hcd : (x == ("__classdict__" : Str)) = false := by decide)
    (pb : ∀ t, PA X [e] t → PE X (.Call (.Attribute (.Name x pos') "append" apos) [e] [] cpos) (tBM X.K "list" rAppend (tVar i) t) := by exact fun t h => pe_bm PySem.F.plainAttrs_list PySem.F.slot_list_append PySem.F.type_list_append mt_append (pe_var (by assumption) (by assumption)) h)
    (hs0 : starEach [e] X.env = (false, eval e X.env) :: starEach [] X.env := by rfl)
    (hs : swapsWith (.Call (.Attribute (.Name x pos') "append" apos) [e] [] cpos) none pos.line X.env = pure false := by rfl) :
    PS X (.Expr (.Call (.Attribute (.Name x pos') "append" apos) [e] [] cpos) pos) (DS X E (sApp i m)) := PS.wk (ps_expr (pb _ (pa_cons he pa_nil hs0)) hs) fun D σ H ⟨F, ρ, h⟩ => by
  have h : denSAt X.K X.mg E F ρ (sApp i m) D σ H := h
  obtain ⟨⟨p, ds0, hk⟩, e0⟩ := ckL_own h.nb
  obtain ⟨a, o, e1, e2, e3, e4⟩ := h.1.own i _ _ hk
  obtain ⟨vs0, rfl, _⟩ := e4
  refine ⟨_, e1, Or.inl ⟨rfl, _, Or.inl (Or.inl e3)⟩, ((denSAt.bind (R := RD X.K) (h.to e0)).mono fun y H2 ⟨F2, ρ2, d, r2, s2, q2⟩ => ?_).of⟩
  have z := q2.2
  unfold ofO at z
  dsimp only at z
  cases hap : appOwn ρ2 i d with
  | none => rw [hap] at z; exact z.elim
  | some ρ3 =>
    rw [hap] at z
    obtain ⟨p2, ds, hk2, hlen, rfl⟩ := appOwn_some hap
    obtain ⟨a', o', y1, y2, y3, y4⟩ := q2.1.own i _ _ hk2
    rw [e1] at y1; cases y1
    obtain ⟨vs, rfl, hr⟩ := y4
    refine ⟨a, vs, y, rfl, rfl, y3, by rw [hr.len]; exact hlen, ?_⟩
    exact z F2 _ σ (Stp.mutOwn q2.1 hk2 e1 y2 y3 ⟨vs, rfl, hr⟩ ⟨vs ++ [y], rfl, hr.app (RpL.cons r2 RpL.nil)⟩)
/-- x.extend(e), e a list -/
def extOwn (ρ : Rho) (i : Nat) (d : D) : Option Rho := match ρ[i]?, d with
  | some (.own p (.lst ds)), .lst es => if ds.length + es.length ≤ sizeLine then some (ρ.set i (.own p (.lst (ds ++ es)))) else none
  | _, _ => none
theorem extOwn_some {ρ ρ' : Rho} {i : Nat} {d : D} (h : extOwn ρ i d = some ρ') : ∃ p ds es, ρ[i]? = some (Val.own p (.lst ds)) ∧ d = .lst es ∧ ds.length + es.length ≤ sizeLine ∧ ρ' = ρ.set i (.own p (.lst (ds ++ es))) := by
  unfold extOwn at h
  split at h
  · rename_i p ds es hk
    split at h
    · rename_i z; cases h; exact ⟨p, ds, es, hk, rfl, z, rfl⟩
    · cases h
  · cases h
def sExt (i : Nat) (m : SM D) : SM Flw := ckL i (SM.bind m fun d => ofO fun ρ => extOwn ρ i d)
theorem s_ext (i : Nat) {apos cpos : Pos} (hN : X.N[i]? = some x) (hv : Vis X.env.scope x) (he : PE X e (DE X E m)) (hd : (x == ("__debug__" : Str)) = false := by decide) (hcd : (x == ("__classdict__" : Str)) = false := by decide)
    (pb : ∀ t, PA X [e] t → PE X (.Call (.Attribute (.Name x pos') "extend" apos) [e] [] cpos) (tBM X.K "list" rExtend (tVar i) t) := by exact fun t h => pe_bm PySem.F.plainAttrs_list PySem.F.slot_list_extend PySem.F.type_list_extend mt_extend (pe_var (by assumption) (by assumption)) h)
    (hs0 : starEach [e] X.env = (false, eval e X.env) :: starEach [] X.env := by rfl)
    (hs : swapsWith (.Call (.Attribute (.Name x pos') "extend" apos) [e] [] cpos) none pos.line X.env = pure false := by rfl) :
    PS X (.Expr (.Call (.Attribute (.Name x pos') "extend" apos) [e] [] cpos) pos) (DS X E (sExt i m)) := PS.wk (ps_expr (pb _ (pa_cons he pa_nil hs0)) hs) fun D σ H ⟨F, ρ, h⟩ => by
  have h : denSAt X.K X.mg E F ρ (sExt i m) D σ H := h
  obtain ⟨⟨p, ds0, hk⟩, e0⟩ := ckL_own h.nb
  obtain ⟨a, o, e1, e2, e3, e4⟩ := h.1.own i _ _ hk
  obtain ⟨vs0, rfl, _⟩ := e4
  refine ⟨_, e1, Or.inl ⟨rfl, _, Or.inl (Or.inl e3)⟩, ((denSAt.bind (R := RD X.K) (h.to e0)).mono fun y H2 ⟨F2, ρ2, d, r2, s2, q2⟩ => ?_).of⟩
  have z := q2.2
  unfold ofO at z
  dsimp only at z
  cases hap : extOwn ρ2 i d with
  | none => rw [hap] at z; exact z.elim
  | some ρ3 =>
    rw [hap] at z
    obtain ⟨p2, ds, es, hk2, rfl, hlen, rfl⟩ := extOwn_some hap
    obtain ⟨a', o', y1, y2, y3, y4⟩ := q2.1.own i _ _ hk2
    rw [e1] at y1; cases y1
    obtain ⟨vs, rfl, hr⟩ := y4
    unfold Rp at r2
    obtain ⟨b, ws, rfl, g1, g2⟩ := r2
    refine ⟨a, b, vs, ws, rfl, rfl, y3, q2.1.sub _ _ g1, by rw [hr.len, g2.len]; exact hlen, ?_⟩
    exact z F2 _ σ (Stp.mutOwn q2.1 hk2 e1 y2 y3 ⟨vs, rfl, hr⟩ ⟨vs ++ ws, rfl, hr.app g2⟩)
/-- x[k] = e, x an own list -/
def setOwnI (ρ : Rho) (i : Nat) (d k : D) : Option Rho := match ρ[i]?, k with
  | some (.own p (.lst ds)), .int k => (ixN ds.length k).map fun j => ρ.set i (.own p (.lst (ds.set j d)))
  | _, _ => none
theorem setOwnI_some {ρ ρ' : Rho} {i : Nat} {d k : D} (h : setOwnI ρ i d k = some ρ') : ∃ p ds n j, ρ[i]? = some (Val.own p (.lst ds)) ∧ k = .int n ∧ ixN ds.length n = some j ∧ ρ' = ρ.set i (.own p (.lst (ds.set j d))) := by
  unfold setOwnI at h
  split at h
  · rename_i p ds n hk
    obtain ⟨j, h1, rfl⟩ := Option.map_eq_some_iff.mp h
    exact ⟨p, ds, n, j, hk, rfl, h1, rfl⟩
  · cases h
def sSetI (i : Nat) (me mk : SM D) : SM Flw := SM.bind me fun d => ckO i (SM.bind mk fun k => ofO fun ρ => setOwnI ρ i d k)
theorem s_setI (i : Nat) {k : Expr} {mk : SM D} {spos : Pos} (hN : X.N[i]? = some x) (hv : Vis X.env.scope x) (he : PE X e (DE X E m)) (hk : PE X k (DE X E mk)) (hd : (x == ("__debug__" : Str)) = false := by decide) (hcd : (x == ("__classdict__" : Str)) = false := by decide)
    (ha : ∀ v, assign (.Subscript (.Name x pos') k spos) X.env v = (do
      let ov ← holding [v] (eval (.Name x pos') X.env)
      let iv ← holding [v, ov] (eval k X.env)
      standAt spos
      holding [v, ov, iv] (setItem ov iv v)
      release [v, ov, iv] []) := by intro _; rfl)
    (hs : swapsWithSole [.Subscript (.Name x pos') k spos] e pos.line X.env = pure false := by rfl) (hw : swappedStores [.Subscript (.Name x pos') k spos] e X.env = pure none := by rfl)
    (h1 : (assignEach [.Subscript (.Name x pos') k spos] X.env).map (·.2) = [assign (.Subscript (.Name x pos') k spos) X.env] := by rfl) :
    PS X (.Assign [.Subscript (.Name x pos') k spos] e pos) (DS X E (sSetI i m mk)) := PS.wk (ps_asg he (pg_sub (pe_var hN hv hd hcd) hk set_list ha) hs hw h1) fun D σ H ⟨F, ρ, h⟩ => by
  have h : denSAt X.K X.mg E F ρ (sSetI i m mk) D σ H := h
  refine ((denSAt.bind (R := RD X.K) h).mono fun y H1 ⟨F1, ρ1, d, r1, s1, q1⟩ => ?_).of
  obtain ⟨⟨p, mo, ho⟩, e0⟩ := ckO_own q1.nb
  obtain ⟨a, o, e1, _⟩ := q1.1.own i _ _ ho
  refine ⟨_, e1, ((denSAt.bind (R := RD X.K) (q1.to e0)).mono fun z H2 ⟨F2, ρ2, kd, r2, s2, q2⟩ => ?_).of⟩
  have w := q2.2
  unfold ofO at w
  dsimp only at w
  cases hap : setOwnI ρ2 i d kd with
  | none => rw [hap] at w; exact w.elim
  | some ρ3 =>
    rw [hap] at w
    obtain ⟨p2, ds, n, j, hk2, rfl, hj, rfl⟩ := setOwnI_some hap
    obtain ⟨a', o', y1, y2, y3, y4⟩ := q2.1.own i _ _ hk2
    rw [e1] at y1; cases y1
    obtain ⟨vs, rfl, hr⟩ := y4
    unfold Rp at r2
    refine ⟨a, vs, n, j, rfl, r2, y3, by rw [hr.len]; exact hj, ?_⟩
    exact w F2 _ σ (Stp.mutOwn q2.1 hk2 e1 y2 y3 ⟨vs, rfl, hr⟩ ⟨vs.set j y, rfl, RpL.set j hr (Rp.mono s2.ext r1)⟩)
end

/-! ### raise -/
def sRaise (x : Str) : SM Flw := fun ρ => .exc ⟨x, none⟩ ρ
section
variable {X : Cx} {E : XK}
theorem s_raise {C : Addr} {x m : Str} {j : Nat} {p p2 cpos pos : Pos} {B newId initId : String} {bmB : List Value} (hc : X.calm = true) (tk : L2N.Takes X (fun cls d _ H => E cls d H)) (F : PySem.ExcBaseFacts B newId initId bmB) (q : PySem.W.excIn X.K C bmB newId = true) (gC : X.mg x = some (.ref C)) (kC : PySem.W.keepIn X.K (.ref C) = true) (r : Raises X (.ref C)) (hg : Gl X x)
    (hdb : (x == ("__debug__" : Str)) = false := by decide) : PS X (.Raise (some (.Call (.Name x p) [.Constant (.str m) j p2] [] cpos)) none pos) (DS X E (sRaise x)) :=
  PS.wk (L2N.ps_raise hc tk (L2N.pmk_own F q gC kC r hg hdb)) fun D σ H ⟨F, ρ, R, h⟩ => h (.ref C) none F H σ ⟨C, gC, rfl, rfl⟩ (Stp.refl R)
end
end Cd

set_option Elab.async false
set_option linter.all false
set_option autoImplicit false
set_option maxRecDepth 100000
set_option maxHeartbeats 1000000
/-! Core11: methods of texts, chains of comparisons, further operations. -/
namespace Cd
open PySem PySem.Spec L2
/-- f of a text and one argument -/
def MSem (K : PySem.W.Frag) (f : D → D → Option D) (r : V → List V → Hp → VK → Prop) : Prop :=
  ∀ a b c, f a b = some c → ∀ (F H : Hp) (x y : V) (Q : VK), Same F H → Rp K F a x → Rp K F b y → (∀ F' H' v, Nw F H F' H' → Rp K F' c v → Q v H') → r x [y] H Q
def D.str? : D → Option Str
  | .str x => some x
  | _ => none
def strsOf : List D → Option (List Str)
  | [] => some []
  | d :: r => d.str?.bind fun x => (strsOf r).map (x :: ·)
theorem strsOf_eq : ∀ {ds : List D} {ys : List Str}, strsOf ds = some ys → ds = ys.map D.str
  | [], ys, h => by cases h; rfl
  | d :: r, ys, h => by
    unfold strsOf at h
    obtain ⟨x, h1, h2⟩ := Option.bind_eq_some_iff.mp h
    obtain ⟨zs, h3, rfl⟩ := Option.map_eq_some_iff.mp h2
    cases d <;> cases h1
    rw [strsOf_eq h3]; rfl
theorem RpL.strs {K : PySem.W.Frag} {F : Hp} : ∀ {ys : List Str} {vs : List V}, RpL K F (ys.map D.str) vs → vs = ys.map V.str
  | [], vs, h => by unfold List.map RpL at h; exact h
  | y :: ys, vs, h => by
    unfold List.map RpL at h
    obtain ⟨v, r, rfl, h1, h2⟩ := h
    unfold Rp at h1
    subst h1
    rw [RpL.strs h2]; rfl
def splitF : D → D → Option D
  | .str a, .str b => if (b.length == 0) = false ∧ a.length + 2 ≤ sizeLine then some (.lst ((Txt.split a b).map D.str)) else none
  | _, _ => none
def itemsOf : D → Option (List D)
  | .lst ds => some ds
  | .tup ds => some ds
  | _ => none
def joinF : D → D → Option D
  | .str a, d => (itemsOf d).bind fun ds => (strsOf ds).bind fun ys => if (ys.map (·.length)).sum + ys.length * a.length ≤ 16777216 then some (.str (Txt.join a ys)) else none
  | _, _ => none
theorem m_split {K : PySem.W.Frag} : MSem K splitF (fun x xs H Q => ∃ a b, x = .str a ∧ xs = [.str b] ∧ (b.length == 0) = false ∧ a.length + 2 ≤ sizeLine ∧ rNewStrs (Txt.split a b) H Q) := by
  intro a b c h F H x y Q e r1 r2 k
  unfold splitF at h
  split at h
  · rename_i a b
    split at h
    · rename_i z
      cases h
      unfold Rp at r1 r2
      subst r1 r2
      refine ⟨a, b, rfl, rfl, z.1, z.2, fun p hp => ?_⟩
      have n := Nw.new (o := .lst ((Txt.split a b).map V.str)) e hp
      exact k _ _ _ n (Rp.lstI upd_same (RpL.map (fun x => by unfold Rp; rfl) _))
    · cases h
  · cases h
theorem m_join {K : PySem.W.Frag} : MSem K joinF (fun x xs H Q => ∃ a p, ∃ ys : List Str, x = .str a ∧ xs = [.ref p] ∧ (SqL K H p (ys.map V.str) ∨ SqT K H p (ys.map V.str)) ∧ (ys.map (·.length)).sum + ys.length * a.length ≤ 16777216 ∧ Q (.str (Txt.join a ys)) H) := by
  intro a b c h F H x y Q e r1 r2 k
  unfold joinF at h
  split at h
  · rename_i a
    obtain ⟨ds, h1, h2⟩ := Option.bind_eq_some_iff.mp h
    obtain ⟨ys, h3, h4⟩ := Option.bind_eq_some_iff.mp h2
    have := strsOf_eq h3
    subst this
    split at h4
    · rename_i z
      cases h4
      unfold Rp at r1
      subst r1
      have fin : Q (.str (Txt.join a ys)) H := k F H _ (Nw.refl e) (by unfold Rp; rfl)
      cases b <;> cases h1
      · unfold Rp at r2
        obtain ⟨p, vs, rfl, g1, g2⟩ := r2
        rw [g2.strs] at g1
        exact ⟨a, p, ys, rfl, rfl, .inl (SqL.of (e _ _ g1)), z, fin⟩
      · unfold Rp at r2
        obtain ⟨p, vs, rfl, g1, g2⟩ := r2
        rw [g2.strs] at g1
        exact ⟨a, p, ys, rfl, rfl, .inr (same_t e g1), z, fin⟩
    · cases h4
  · cases h
theorem denAt.nw {α β : Type} {K : PySem.W.Frag} {mg : Str → Option Value} {E : XK} {R : Rl α β} {F H F1 H1 : Hp} {ρ : Rho} {σ : St} {m : SM α} {Q : β → Hp → Prop} (h : denAt K mg E R F ρ m σ H Q) (n : Nw F H F1 H1) : denAt K mg E R F1 ρ m σ H1 Q := by
  have s := Stp.nw h.1 n
  refine ⟨s.rep, ?_⟩
  have h2 := h.2
  revert h2
  cases m ρ with
  | bad => exact fun z => z
  | exc x ρx => exact fun z => z.back s
  | ok a ρ' => exact fun z F' H' b s' r => z F' H' b (s.trans s') r
section
variable {X : Cx} {E : XK} {o e a b c : Expr} {pos : Pos} {m n l : SM D}
/-- a text's method -/
def eMeth (f : D → D → Option D) (m n : SM D) : SM D := SM.bind m fun a => match a with
  | .str x => SM.bind n fun b => SM.opt (f (.str x) b)
  | _ => SM.bad
theorem tM1_of {f : D → D → Option D} {r : V → List V → Hp → VK → Prop} (hs : MSem X.K f r) {σ : St} {H : Hp} {Q : VK} (h : DE X E (eMeth f m n) σ H Q) : tM1 r (DE X E m) (DE X E n) σ H Q :=
  (den.bind (R := RD X.K) h).mono fun x H1 ⟨F1, ρ1, d1, r1, q1⟩ => by
    cases d1 with
    | str s =>
      unfold Rp at r1
      subst r1
      refine ⟨⟨s, rfl⟩, ((denAt.bind (R := RD X.K) q1).mono fun y H2 ⟨F2, ρ2, d2, r2, ex, q2⟩ => ?_).of⟩
      cases z : f (.str s) d2 with
      | none => rw [z] at q2; exact q2.bad.elim
      | some c =>
        rw [z] at q2
        exact hs _ _ _ z F2 H2 _ _ Q q2.sub (by unfold Rp; rfl) r2 fun F' H' v nn rv => q2.pure nn rv
    | _ => exact q1.bad.elim
theorem e_split {apos : Pos} (ho : PE X o (DE X E m)) (he : PE X e (DE X E n)) (hs : starEach [e] X.env = [(false, eval e X.env)] := by rfl) (hbase : attributeBase o "split" X.env (eval o X.env) = eval o X.env := by rfl) (hline : (apos.endLine == pos.line) = true := by rfl) :
    PE X (.Call (.Attribute o "split" apos) [e] [] pos) (DE X E (eMeth splitF m n)) := PE.wk (pe_split ho he hs hbase hline) fun σ H Q h => tM1_of m_split h
theorem e_join {apos : Pos} (ho : PE X o (DE X E m)) (he : PE X e (DE X E n)) (hs : starEach [e] X.env = [(false, eval e X.env)] := by rfl) (hbase : attributeBase o "join" X.env (eval o X.env) = eval o X.env := by rfl) (hline : (apos.endLine == pos.line) = true := by rfl) :
    PE X (.Call (.Attribute o "join" apos) [e] [] pos) (DE X E (eMeth joinF m n)) := PE.wk (pe_join ho he hs hbase hline) fun σ H Q h => tM1_of m_join h
/-! ### a op b op c -/
def chainK (g : D → D → Option D) (l : SM D) (b : D) : D → SM D
  | .bl true => SM.bind l fun d => SM.opt (g b d)
  | .bl false => SM.pure (.bl false)
  | _ => SM.bad
def eChain (f g : D → D → Option D) (m n l : SM D) : SM D := SM.bind m fun a => SM.bind n fun b => SM.bind (SM.opt (f a b)) (chainK g l b)
theorem chain_use {f g : D → D → Option D} {r r' : R2} (hf : RSem X.K f r) (hg : RSem X.K g r') {σ : St} {H : Hp} {Q : VK} (h : DE X E (eChain f g m n l) σ H Q) : tChain r r' (DE X E m) (DE X E n) (DE X E l) σ H Q :=
  (den.bind (R := RD X.K) h).mono fun x H1 ⟨F1, ρ1, d1, r1, q1⟩ => ((denAt.bind (R := RD X.K) q1).mono fun y H2 ⟨F2, ρ2, d2, r2, ex, q2⟩ => by
    have q2 : denAt X.K X.mg E (RD X.K) F2 ρ2 (SM.bind (SM.opt (f d1 d2)) (chainK g l d2)) σ H2 Q := q2
    cases z : f d1 d2 with
    | none => rw [z] at q2; exact q2.2.elim
    | some c =>
      rw [z] at q2
      have q2 : denAt X.K X.mg E (RD X.K) F2 ρ2 (chainK g l d2 c) σ H2 Q := q2
      refine hf _ _ _ z F2 H2 x y _ q2.1.sub (r1.mono ex) r2 fun F3 H3 v nw rv => ?_
      have q3 := q2.nw nw
      cases c with
      | bl k =>
        unfold Rp at rv
        subst rv
        refine ⟨k, rfl, ?_⟩
        cases k with
        | true =>
          refine ((denAt.bind (R := RD X.K) q3).mono fun w H4 ⟨F4, ρ4, d4, r4, e4, q4⟩ => ?_).of
          cases z2 : g d2 d4 with
          | none => rw [z2] at q4; exact q4.bad.elim
          | some c4 =>
            rw [z2] at q4
            exact hg _ _ _ z2 F4 H4 y w Q q4.1.sub ((r2.mono nw.ext).mono e4) r4 fun F' H' v nn rv => q4.pure nn rv
        | false => exact q3.pure0 (by unfold Rp; rfl)
      | _ => exact q3.bad.elim).of
theorem e_chain {op op' : CmpOp} {f g : D → D → Option D} {r r' : R2} (ho : OpR X (compareOp op) r) (hf : RSem X.K f r) (ho' : OpR X (compareOp op') r') (hg : RSem X.K g r') (ha : PE X a (DE X E m)) (hb : PE X b (DE X E n)) (hc : PE X c (DE X E l))
    (hm : lastMarks [op, op'] [b, c] = false := by with_unfolding_all rfl) : PE X (.Compare a [op, op'] [b, c] pos) (DE X E (eChain f g m n l)) := PE.wk (pe_chain ho ho' ha hb hc hm) fun σ H Q h => chain_use hf hg h
theorem t_chain {op op' : CmpOp} {f g : D → D → Option D} {r r' : R2} (ho : OpR X (compareOp op) r) (hf : RSem X.K f r) (ho' : OpR X (compareOp op') r') (hg : RSem X.K g r') (ha : PE X a (DE X E m)) (hb : PE X b (DE X E n)) (hc : PE X c (DE X E l))
    (hm : lastMarks [op, op'] [b, c] = false := by with_unfolding_all rfl) : PT X (.Compare a [op, op'] [b, c] pos) (DB X E (bOf (eChain f g m n l))) := PT.wk (pt_chain ho ho' ha hb hc hm) fun σ H Q h => chain_use hf hg (bOf_use h)
end
end Cd

set_option Elab.async false
set_option linter.all false
set_option autoImplicit false
set_option maxRecDepth 100000
set_option maxHeartbeats 1000000
/-! CoreH1: walked things' ends and pairs taken apart while an exception is handled. -/
namespace Cd
open PySem PySem.Spec PyProof.Rows L2 HotX L2H
section
variable {pr : Program} {wd : World} {B : Around} {Er : Value → Shared → Prop} {s0 : Shared}
theorem HotAt.keep {x1 : Addr} {g g' : Heap} (c : HotAt B x1 g) (h : ∀ o, g.get? x1 = some o → g'.get? x1 = some o) : HotAt B x1 g' := by
  obtain ⟨a, o, vs, p, q, r⟩ := c
  exact ⟨a, o, vs, h o p, q, r⟩
/-- StopIteration, raised there -/
theorem stop_hot {α : Type} {x1 : Addr} {Qq : α → Shared → Prop} (c : HotAt B x1 s0.heap)
    (hk : ∀ h' e, (∀ b o, s0.heap.get? b = some o → h'.get? b = some o) → (∃ o, h'.get? e = some o ∧ o.cls = .type "StopIteration") → Er (.ref e) { s0 with heap := h' }) :
    wpAny (model pr wd) B (newExc (.type "StopIteration") [] >>= fun v => (raiseNew v : Sem α)) Qq Er s0 := by
  obtain ⟨hh, o1, vs1, h1, d1, c1⟩ := c
  apply wpAny_bind
  simp only [newExc, newTuple]
  apply wpAny_bind; apply wpAny_newObj_type (h := ?_) (hd := by size_fits)
  apply wpAny_bind (m := firstArgMember _ _); apply wpAny_of_eq (a := Value.none) (by first | rfl | (simp only [firstArgMember]; rfl))
  apply wpAny_newObj_type (h := ?_) (hd := by size_fits)
  have up := Heap.get?_push_of_some (h := s0.heap) { cls := .type "tuple", data := .seq ([] : List Value).toArray } h1
  refine raiseNew_hot ⟨hh, o1, vs1, Heap.get?_push_of_some _ up, d1, c1⟩ (Nat.ne_of_lt (Heap.lt_size up)) (Heap.get?_push_size _ rfl) rfl ?_ ?_
  · first | (simp; done) | (simp; omega) | (simp only [Array.size_append]; simp; omega)
  · refine hk _ _ (fun b o z => ?_) ⟨_, Heap.get?_update_self _ (Heap.get?_push_size _ rfl) rfl, by rfl⟩
    have z2 := Heap.get?_push_of_some { cls := .type "tuple", data := .seq ([] : List Value).toArray } z
    rw [Heap.get?_update_other _ _ (Nat.ne_of_gt (Heap.lt_size z2))]
    exact Heap.get?_push_of_some _ z2
/-- a list's iterator behind its last item -/
theorem list_end_hot {x1 j l : Addr} {n : Nat} {arr : Array Value} {Qv : Value → Shared → Prop} (c : HotAt B x1 s0.heap) (hx : x1 ≠ j) (wi : s0.heap.IsListIter j l n) (wl : s0.heap.IsList l arr) (out : arr[n]? = none)
    (hk : ∀ h' e, Heap.ExtBut j s0.heap h' → (∃ o, h'.get? e = some o ∧ o.cls = .type "StopIteration") → Er (.ref e) { s0 with heap := h' }) :
    wpAny (model pr wd) B (Builtin.SmallTypes.nextOf (.ref j)) Qv Er s0 := by
  obtain ⟨oi, gi, ci, di⟩ := id wi
  obtain ⟨ol, gl, _, nl, dl⟩ := wl
  unfold Builtin.SmallTypes.nextOf
  apply wpAny_bind
  refine wpAny_callSpecial?_slot (name := Str.ofString "__next__") wi.typeIs slot_listiter_next (wpAny_call_entry slot_listiter_next wi.typeIs entry_listiter_next ?_ (args_listiter_next _))
  show wpAny _ _ ((field (.ref j) 0) >>= _) _ _ s0
  apply wpAny_bind; apply wpAny_field gi di (x := .ref l) rfl
  show wpAny _ _ (if (Value.ref l == Value.none) = true then _ else _) _ _ s0
  rw [if_neg (show ¬ (Value.ref l == Value.none) = true from fun z => nomatch z)]
  show wpAny _ _ ((field (.ref j) 1) >>= _) _ _ s0
  apply wpAny_bind; apply wpAny_field gi di (x := .int n 0) rfl
  show wpAny _ _ ((seqItems? (.ref l)) >>= _) _ _ s0
  apply wpAny_bind; apply wpAny_seqItems gl dl
  simp only [Int.toNat_natCast, out]
  apply wpAny_bind; apply wpAny_rule; apply wpAny_bind
  apply wpAny_setField gi di (by simp)
  refine stop_hot (HotAt.keep c fun o z => (Heap.get?_update_other _ _ (Ne.symm hx)).trans z) fun h' e k t => hk h' e (fun b o hb z => k b o ((Heap.get?_update_other _ _ (Ne.symm hb)).trans z)) t
/-- a tuple's iterator behind its last item -/
theorem tup_end_hot {x1 j l : Addr} {n : Nat} {arr : Array Value} {Qv : Option Value → Shared → Prop} (c : HotAt B x1 s0.heap) (hx : x1 ≠ j) (wi : IsTupIter s0.heap j l n) (wl : IsTup s0.heap l arr) (out : arr[n]? = none)
    (hk : ∀ h', Heap.ExtBut j s0.heap h' → Qv none { s0 with heap := h' }) : wpAny (model pr wd) B (pyNext (.ref j)) Qv Er s0 := by
  obtain ⟨oi, gi, ci, di⟩ := id wi
  obtain ⟨ol, gl, _, nl, dl⟩ := wl
  unfold pyNext
  apply wpAny_bind; apply wpAny_attempt
  refine wpAny_callSpecial?_slot (name := Str.ofString "__next__") wi.typeIs slot_tupleiter_next (wpAny_call_entry slot_tupleiter_next wi.typeIs entry_tupleiter_next ?_ (args_tupleiter_next _))
  show wpAny _ _ ((field (.ref j) 0) >>= _) _ _ s0
  apply wpAny_bind; apply wpAny_field gi di (x := .ref l) rfl
  show wpAny _ _ (if (Value.ref l == Value.none) = true then _ else _) _ _ s0
  rw [if_neg (show ¬ (Value.ref l == Value.none) = true from fun z => nomatch z)]
  show wpAny _ _ ((field (.ref j) 1) >>= _) _ _ s0
  apply wpAny_bind; apply wpAny_field gi di (x := .int n 0) rfl
  show wpAny _ _ ((seqItems? (.ref l)) >>= _) _ _ s0
  apply wpAny_bind; apply wpAny_seqItems gl dl
  simp only [Int.toNat_natCast, out]
  apply wpAny_bind; apply wpAny_rule; apply wpAny_bind
  apply wpAny_setField gi di (by simp)
  refine stop_hot (HotAt.keep c fun o z => (Heap.get?_update_other _ _ (Ne.symm hx)).trans z) fun h' e k ⟨oe, t1, t2⟩ => ?_
  apply wpAny_bind; refine wpAny_isInstance (T := "StopIteration") (b := true) ⟨oe, t1, t2⟩ isSubtype_stop ?_
  exact wpAny_pure (hk h' fun b o hb z => k b o ((Heap.get?_update_other _ _ (Ne.symm hb)).trans z))
/-- a tuple taken apart -/
theorem unpack_hot {x1 t : Addr} {arr : Array Value} {Qu : List Value → Shared → Prop} (c : HotAt B x1 s0.heap) (wt : IsTup s0.heap t arr)
    (hk : ∀ h', Heap.ExtBut s0.heap.objs.size s0.heap h' → Qu arr.toList { s0 with heap := h' }) : wpAny (model pr wd) B (unpackItems (.ref t) arr.size none) Qu Er s0 := by
  have ne : t ≠ s0.heap.objs.size := by obtain ⟨o, g, _⟩ := wt; exact Nat.ne_of_lt (Heap.lt_size g)
  have nx : x1 ≠ s0.heap.objs.size := by obtain ⟨_, o, _, g, _⟩ := c; exact Nat.ne_of_lt (Heap.lt_size g)
  unfold unpackItems notIterableAtAll
  apply wpAny_bind; apply wpAny_bind; apply wpAny_specialOf wt.typeIs slot_tuple_iter.lookup; apply wpAny_pure
  simp only [Bool.false_eq_true, if_false]
  apply wpAny_bind; apply wpAny_holding; apply iter_tuple wt
  apply wpAny_bind; apply wpAny_holding
  refine draw_tuple ne arr.size 0 _ _ ⟨_, Heap.get?_push_size _ rfl, rfl, rfl⟩ (wt.push _) (Nat.le_of_eq (Nat.zero_add _)) fun g1 w1 same => ?_
  have all : (arr.toList.drop 0).take arr.size = arr.toList := List.take_of_length_le (Nat.le_refl _)
  rw [all, if_neg (show ¬ arr.toList.length < arr.size from by simp)]
  apply wpAny_bind; apply wpAny_holding
  refine tup_end_hot (HotAt.keep c fun o z => same.extBut _ o nx (Heap.get?_push_of_some _ z)) nx w1 ((wt.push _).extBut same.extBut ne) (by simp) fun g2 k2 => ?_
  simp only [Option.isSome_none, Bool.false_eq_true, if_false]
  exact wpAny_pure (hk g2 fun b o hb z => k2 b o hb (same.extBut b o hb (Heap.get?_push_of_some _ z)))
theorem assign_tup_hot {x1 t : Addr} {arr : Array Value} {env : Env} {es : List Expr} {kx} {pp : Pos} {Qu : Unit → Shared → Prop} (c : HotAt B x1 s0.heap) (wt : IsTup s0.heap t arr) (hn : (assignEach es env).length = arr.size) (hst : (assignEach es env).findIdx? (·.1) = none)
    (hk : ∀ h', Heap.ExtBut s0.heap.objs.size s0.heap h' → wpAny (model pr wd) B (assignInOrder ((assignEach es env).map (·.2)) arr.toList) Qu Er { s0 with heap := h' }) :
    wpAny (model pr wd) B (assign (.Tuple es kx pp) env (.ref t)) Qu Er s0 := by
  rw [assign_Tuple]
  apply wpAny_bind; apply wpAny_standAt
  unfold unpack
  rw [hst, hn]
  apply wpAny_bind; apply wpAny_holding
  exact unpack_hot c wt hk
/-- a zip of two lists behind the end -/
theorem zip_end_hot {x1 z TI TO i1 i2 l1 l2 : Addr} {k1 k2 : Nat} {xs ys : Array Value} {a b : Value} {Qz : Option Value → Shared → Prop} (c : HotAt B x1 s0.heap) (D : ZipApart z TI TO i1 i2 l1 l2) (n1 : x1 ≠ z) (n2 : x1 ≠ TO) (n3 : x1 ≠ i1) (n4 : x1 ≠ i2)
    (wz : IsZip s0.heap z TI TO .none) (wTI : IsPair s0.heap TI (.ref i1) (.ref i2)) (wTO : IsPair s0.heap TO a b) (w1 : s0.heap.IsListIter i1 l1 k1) (w2 : s0.heap.IsListIter i2 l2 k2) (wl1 : s0.heap.IsList l1 xs) (wl2 : s0.heap.IsList l2 ys)
    (out : xs[k1]? = none ∨ ys[k2]? = none) (hk : ∀ h', (∀ c o, c ≠ z → c ≠ TO → c ≠ i1 → c ≠ i2 → s0.heap.get? c = some o → h'.get? c = some o) → Qz none { s0 with heap := h' }) : wpAny (model pr wd) B (pyNext (.ref z)) Qz Er s0 := by
  have ty : s0.TypeIs (.ref z) "zip" := ⟨_, wz, rfl⟩
  unfold pyNext
  apply wpAny_bind; apply wpAny_attempt
  refine wpAny_callSpecial?_slot (name := Str.ofString "__next__") ty F.slot_zip_next (wpAny_call_entry F.slot_zip_next ty F.entry_zip_next ?_ (F.args_zip_next_1 _))
  show wpAny _ _ ((field (.ref z) 2) >>= _) _ _ _
  apply wpAny_bind; apply wpAny_field wz rfl (x := .bool false) rfl
  show wpAny _ _ ((field (.ref z) 3) >>= _) _ _ _
  apply wpAny_bind; apply wpAny_field wz rfl (x := .ref TI) rfl
  apply wpAny_bind; apply wpAny_seqItems wTI rfl
  show wpAny _ _ ((Builtin.SmallTypes.ownedTupleIsFree (.ref z)) >>= _) _ _ _
  unfold Builtin.SmallTypes.ownedTupleIsFree
  apply wpAny_bind; apply wpAny_bind; apply wpAny_field wz rfl (x := .none) rfl; apply wpAny_pure
  simp only [if_true]
  apply wpAny_bind; apply wpAny_rule
  apply wpAny_bind; apply wpAny_field wz rfl (x := .ref TO) rfl
  apply wpAny_bind; apply wpAny_setField_rec wz (by simp)
  intro g1 wz1 same1
  replace wz1 : IsZip g1 z TI TO .ellipsis := wz1
  have c1 : HotAt B x1 g1 := HotAt.keep c fun o q => same1.extBut _ o n1 q
  apply wpAny_bind
  simp only [List.zipIdx_cons, List.zipIdx_nil, List.forIn_cons, List.forIn_nil]
  -- what stands behind the end
  have fin : ∀ (h2 : Heap) (e : Addr), IsZip h2 z TI TO .ellipsis → (∃ o, h2.get? e = some o ∧ o.cls = .type "StopIteration") → (∀ c o, c ≠ z → c ≠ TO → c ≠ i1 → c ≠ i2 → s0.heap.get? c = some o → h2.get? c = some o) → ∀ h3, Heap.SameBut z h2 h3 → 
      wpAny (model pr wd) B (do (if ← isInstance (.ref e) (.type "StopIteration") then pure (none : Option Value) else throw (.ref e))) Qz Er { s0 with heap := h3 } := fun h2 e q1 ⟨oe, q2, q3⟩ q4 h3 q5 => by
    have ne : e ≠ z := fun q => by rw [q, q1] at q2; cases q2; exact absurd q3 (by simp)
    apply wpAny_bind; refine wpAny_isInstance (T := "StopIteration") (b := true) ⟨oe, q5.extBut _ _ ne q2, q3⟩ isSubtype_stop ?_
    exact wpAny_pure (hk h3 fun c o a1 a2 a3 a4 a5 => q5.extBut _ _ a1 (q4 c o a1 a2 a3 a4 a5))
  apply wpAny_bind; apply wpAny_bind; apply wpAny_onRaise
  show wpAny _ _ ((Builtin.SmallTypes.nextOf (.ref i1)) >>= _) _ _ _
  cases e1 : xs[k1]? with
  | none =>
    apply wpAny_bind
    refine list_end_hot c1 n3 (w1.extBut same1.extBut D.i1z) (wl1.extBut same1.extBut D.l1z) e1 fun g2 e kp st => ?_
    have wz2 : IsZip g2 z TI TO .ellipsis := kp _ _ D.i1z.symm wz1
    refine wpAny_setField_rec wz2 (by simp) fun g3 _ same3 => ?_
    exact fin g2 e wz2 st (fun c o a1 a2 a3 a4 a5 => kp _ _ a3 (same1.extBut _ _ a1 a5)) g3 same3
  | some x =>
    have e2 : ys[k2]? = none := out.elim (fun q => by rw [e1] at q; cases q) id
    apply wpAny_bind
    refine wpAny_nextOf_list_item (w1.extBut same1.extBut D.i1z) (wl1.extBut same1.extBut D.l1z) e1 fun g2 w1' same2 => wpAny_pure ?_
    have wTO2 : IsPair g2 TO a b := same2.extBut _ _ D.TOi1 (same1.extBut _ _ D.TOz wTO)
    apply wpAny_bind; apply wpAny_seqItems wTO2 rfl
    apply wpAny_bind; apply wpAny_updateSeq_pair wTO2
    intro g3 wTO3 same3
    apply wpAny_bind; apply wpAny_letGo; apply wpAny_pure
    apply wpAny_bind; apply wpAny_bind; apply wpAny_onRaise
    show wpAny _ _ ((Builtin.SmallTypes.nextOf (.ref i2)) >>= _) _ _ _
    apply wpAny_bind
    have c3 : HotAt B x1 g3 := HotAt.keep (HotAt.keep c1 fun o q => same2.extBut _ o n3 q) fun o q => same3.extBut _ o n2 q
    refine list_end_hot c3 n4 (((w2.extBut same1.extBut D.i2z).extBut same2.extBut D.i12.symm).extBut same3.extBut D.TOi2.symm) (((wl2.extBut same1.extBut D.l2z).extBut same2.extBut D.l2i1).extBut same3.extBut D.l2TO) e2 fun g4 e kp st => ?_
    have wz4 : IsZip g4 z TI TO .ellipsis := kp _ _ D.i2z.symm (same3.extBut _ _ D.TOz.symm (same2.extBut _ _ D.i1z.symm wz1))
    refine wpAny_setField_rec wz4 (by simp) fun g5 _ same5 => ?_
    exact fin g4 e wz4 st (fun c o a1 a2 a3 a4 a5 => kp _ _ a4 (same3.extBut _ _ a2 (same2.extBut _ _ a3 (same1.extBut _ _ a1 a5)))) g5 same5
end
end Cd

set_option Elab.async false
set_option linter.all false
set_option autoImplicit false
set_option maxRecDepth 100000
set_option maxHeartbeats 1000000
/-! CoreH2: zip, a pair as target and a list comprehension while an exception is handled. -/
namespace Cd
open PySem PySem.Spec PyProof.Rows L2 HotX L2H
/-- what is pinned is apart from an iterator's objects -/
theorem hot_apart {X : Cx} {pins : List (Addr × Obj)} {σ : L2.St} {H : Hp} {s : Shared} {fp : List Addr} (c : HotC X) (I : Inv X pins σ H s) (hf : ∀ b ∈ fp, FpOk X pins H b) : ∃ x1, HotAt X.A x1 s.heap ∧ ∀ b ∈ fp, x1 ≠ b := by
  obtain ⟨p, ⟨hh, vs, e1, c1⟩, hp⟩ := c
  have m : p ∈ X.pn ++ pins := List.mem_append_left _ hp
  exact ⟨p.1, ⟨hh, p.2, vs, (I.pin p m).1, e1, c1⟩, fun b hb => (hf b hb).2.2.2.2.2 p m⟩
theorem zip_turn {P : Program} {w : World} {K : PySem.W.Frag} {es : List Expr} {kx : Nat} {tp : Pos} {a b z TI TO i1 i2 : Addr} (D : ZipApart z TI TO i1 i2 a b) :
    TurnH P w K (.Tuple es kx tp) (Itz K a b) [z, TI, TO, i1, i2] z (fun i g => IsZip g z TI TO .none ∧ IsPair g TI (.ref i1) (.ref i2) ∧ (∃ u v, IsPair g TO u v) ∧ g.IsListIter i1 a i ∧ g.IsListIter i2 b i) where
  mem := List.mem_cons_self
  obj := fun i g ⟨q1, q2, ⟨u, v, q3⟩, ⟨o1, q4, _, q5⟩, ⟨o2, q6, _, q7⟩⟩ c hc => by
    simp only [List.mem_cons, List.not_mem_nil, or_false] at hc
    obtain rfl | rfl | rfl | rfl | rfl := hc
    · exact ⟨_, q1, fun v n => nomatch n⟩
    · exact ⟨_, q2, fun v n => nomatch n⟩
    · exact ⟨_, q3, fun v n => nomatch n⟩
    · exact ⟨_, q4, fun v n => nomatch q5.symm.trans n⟩
    · exact ⟨_, q6, fun v n => nomatch q7.symm.trans n⟩
  keep := fun i g g' ⟨q1, q2, ⟨u, v, q3⟩, q4, q5⟩ k => by
    refine ⟨k _ ?_ _ q1, k _ ?_ _ q2, ⟨u, v, k _ ?_ _ q3⟩, q4.at fun o n => k _ ?_ o n, q5.at fun o n => k _ ?_ o n⟩ <;> simp only [List.mem_cons, true_or, or_true]
  item := by
    intro X eP ew eK hc i pins s σ H E I hf st0 go0
    obtain ⟨q1, q2, ⟨u0, v0, q3⟩, q4, q5⟩ := st0
    obtain ⟨xs, ys, x, y, sx, sy, gx, gy⟩ := go0
    subst eP ew eK
    obtain ⟨ax, rx, px, _⟩ := I.list sx
    obtain ⟨ay, ry, py, _⟩ := I.list sy
    obtain ⟨ux, hx, kx⟩ := rx.get gx
    obtain ⟨uy, hy, ky⟩ := ry.get gy
    have lz : z < s.heap.objs.size := Heap.lt_size q1
    apply wpAny_pyNext_zip_item D q1 q2 q3 q4 q5 px.isList py.isList (x := ux) (y := uy) (by simpa using hx) (by simpa using hy)
    intro g1 z1 t1 w1 w2 n1 _ k1
    refine ⟨_, rfl, ?_⟩
    apply wpAny_letOwnedTupleGo_zip (s := { s with heap := g1 }) z1
    intro g2 z2 same
    have sm : ∀ {c o}, c ≠ z → g1.get? c = some o → g2.get? c = some o := fun {c o} hb q => (same.2 c hb).trans q
    have pr : g2.get? s.heap.objs.size = some { cls := .type "tuple", data := .seq #[ux, uy] } := sm (Nat.ne_of_gt lz) n1
    have I2 := I.turnedNew (h' := g2) (T := s.heap.objs.size) (ob := .tup [x, y]) (t' := s.toks) (ch := [z, TI, TO, i1, i2]) (fun c o hb q => by
      simp only [List.mem_cons, List.not_mem_nil, or_false, not_or] at hb
      exact sm hb.1 (k1 c o hb.1 hb.2.2.1 hb.2.2.2.1 hb.2.2.2.2 q)) hf (Nat.le_refl _) ⟨by show 2 ≤ sizeLine; decide, [ux, uy], .cons kx (.cons ky .nil), _, pr, rfl, _, rfl⟩
    refine ⟨.ref s.heap.objs.size, _, I2, rfl, ⟨_, x, y, rfl, I.hok.fresh (Nat.le_refl _), rfl, fun l hl => ?_, fun l hl => ?_⟩, ⟨z2, sm D.TIz (k1 _ _ D.TIz D.TITO D.TIi1 D.TIi2 q2), ⟨ux, uy, sm D.TOz t1⟩, w1.at fun o q => sm D.i1z q, w2.at fun o q => sm D.i2z q⟩, fun c hcm => ?_⟩
    · rw [I.list_inj hl sx]; exact gx
    · rw [I.list_inj hl sy]; exact gy
    · have lt : c < s.heap.objs.size := by
        simp only [List.mem_cons, List.not_mem_nil, or_false] at hcm
        obtain rfl | rfl | rfl | rfl | rfl := hcm
        · exact lz
        · exact Heap.lt_size q2
        · exact Heap.lt_size q3
        · exact q4.elim fun _ n => Heap.lt_size n.1
        · exact q5.elim fun _ n => Heap.lt_size n.1
      rw [upd_ne (Nat.ne_of_lt lt)]
      exact (hf c hcm).1
  done := by
    intro X eP ew eK hc i pins s σ H E I hf st0 go0
    obtain ⟨q1, q2, ⟨u0, v0, q3⟩, q4, q5⟩ := st0
    obtain ⟨xs, ys, sx, sy, out⟩ := go0
    subst eP ew eK
    obtain ⟨ax, rx, px, _⟩ := I.list sx
    obtain ⟨ay, ry, py, _⟩ := I.list sy
    obtain ⟨x1, ha, ap⟩ := hot_apart hc I hf
    have lx := rx.length
    have ly := ry.length
    have e : ax.toArray[i]? = none ∨ ay.toArray[i]? = none := out.imp (fun q => by simp; omega) fun q => by simp; omega
    refine zip_end_hot ha D (ap _ (by simp)) (ap _ (by simp)) (ap _ (by simp)) (ap _ (by simp)) q1 q2 q3 q4 q5 px.isList py.isList e fun g k => ⟨rfl, ?_⟩
    refine I.turnedL (t' := s.toks) (ch := [z, TI, TO, i1, i2]) (fun c o hb q => ?_) hf
    simp only [List.mem_cons, List.not_mem_nil, or_false, not_or] at hb
    exact k c o hb.1 hb.2.2.1 hb.2.2.2.1 hb.2.2.2.2 q
  self := fun A i s Q E st q => wpAny_pyIter_zip st.1 q
section
variable {X : Cx} {E : XK} {tg e e2 : Expr} {p pos : Pos} {ms : SM (List D)}
/-- zip of two lists -/
theorem zip_pih {tp : Pos} {es : List Expr} {kx : Nat} {ta : TA} (hg : Gl X "zip") (hm : X.mg "zip" = none) (ha : PA X [e, e2] ta)
    (hs : starEach [e, e2] X.env = (false, eval e X.env) :: starEach [e2] X.env := by rfl) (hpl : (backTo pos (starEach [e2] X.env)).any (·.1) = false := by rfl) :
    PIH X (.Tuple es kx tp) (.Call (.Name "zip" p) [e, e2] [] pos) (iZip X.K ta) := ⟨fun pins s σ H R I h => by
  refine Call_ (ld_blt I hg hm PyProof.Rows.boot_zip (PyProof.Rows.callWith_type1 ?_ hs hpl))
  refine thn (ha.run pos pins s σ H _ I h) fun us s1 ⟨vs, H1, I1, r1, a, b, xs, ys, ev, sx, sy, q⟩ => ?_
  subst ev
  obtain ⟨rfl⟩ : us = [.ref a, .ref b] := by
    cases r1 with
    | cons m1 m2 => cases m2 with
      | cons m3 m4 => cases m4; cases m1; cases m3; rfl
  obtain ⟨ax, rx, px, _⟩ := I1.list sx
  obtain ⟨ay, ry, py, _⟩ := I1.list sy
  apply call_zip_2 px.isList py.isList
  intro g z1 z2 z3 z4 z5 _ k
  apply wpAny_pyIter_zip z1
  have ap := PySem.W.ktu_apart s1.heap.objs.size a b px.lt py.lt
  refine ⟨_, [s1.heap.objs.size + 4, s1.heap.objs.size + 2, s1.heap.objs.size + 3, s1.heap.objs.size, s1.heap.objs.size + 1], _, _, H1, rfl, I1.kept (t' := s1.toks) k, zip_turn ap, ⟨z1, z2, ⟨_, _, z3⟩, z4, z5⟩, fun c hcm => ?_, q⟩
  have le : s1.heap.objs.size ≤ c := by
    simp only [List.mem_cons, List.not_mem_nil, or_false] at hcm
    obtain rfl | rfl | rfl | rfl | rfl := hcm
    all_goals first | exact Nat.le_refl _ | exact Nat.le_add_right _ _
  exact I1.fpOk le (I1.hok.fresh le)⟩
/-- a, b = a pair -/
theorem pg_tupH {es : List Expr} {k : Nat} {t : TGs} {n : Nat} (hc : HotC X) (h : PGs X es t) (hn : (assignEach es X.env).length = n := by rfl) (hst : (assignEach es X.env).findIdx? (·.1) = none := by rfl) : PG X (.Tuple es k pos) (gTup X.K n t) := ⟨fun pins s σ H v u Q I r ⟨a, xs, ev, sq, hl, hw⟩ => by
  subst ev
  cases r
  obtain ⟨arr, rv, wt, _⟩ := I.tuple sq
  obtain ⟨x1, c⟩ := hc.at I
  refine assign_tup_hot c wt (by simp [hn, ← hl, rv.length]) hst fun g kp => ?_
  refine h.run pins _ σ H xs _ Q (I.kept (h' := g) (t' := s.toks) fun b o q => ?_) (by simpa using rv) hw
  exact kp b o (Nat.ne_of_lt (Heap.lt_size q)) q⟩
end
end Cd

set_option Elab.async false
set_option linter.all false
set_option autoImplicit false
set_option maxRecDepth 100000
set_option maxHeartbeats 1000000
/-! CoreH3: a list comprehension while an exception is handled. -/
namespace Cd
open PySem PySem.Spec PyProof.Rows L2 HotX L2H
/-- the block's context, the handled exception pinned -/
abbrev blkH (X : Cx) (p : Addr × Obj) (s : Shared) (H : Hp) (scope : Scope) (env' : Env) (fp : List Addr) : Cx := { X.blk s H scope env' fp with pn := [p] }
section
variable {X : Cx} {pins : List (Addr × Obj)} {σ σ' : L2.St} {H H' : Hp} {s s' : Shared} {scope : Scope} {env' : Env} {fp : List Addr} {p : Addr × Obj}
theorem blkH_in (I : Inv (X.blk s H scope env' fp) pins σ' H' s') (hp : s'.heap.get? p.1 = some p.2 ∧ H' p.1 = none ∧ p.1 ≠ env'.locals ∧ p.1 ∉ frs X.stack ∧ ∀ v, p.2.data ≠ .cell v) : Inv (blkH X p s H scope env' fp) pins σ' H' s' where
  ok := ⟨I.ok.mod, I.ok.kind, I.ok.glob, I.ok.blt, I.ok.above, I.ok.inj, I.ok.has, I.ok.cab, I.ok.hd, I.ok.frames, I.ok.stk, I.ok.exf, I.ok.bs, I.ok.bsz, I.ok.noex, I.ok.exfs, I.ok.funs, I.ok.frf⟩
  os := I.os
  bare := I.bare
  base := I.base
  loc := I.loc
  cell := I.cell
  free := I.free
  freeC := I.freeC
  hok := I.hok
  len := I.len
  pin q hq := by
    rcases List.mem_cons.mp hq with e | e
    · rw [e]; exact hp
    · exact I.pin q e
/-- [elt for target in iter if ..] there -/
theorem pe_lcH {elt tg iter : Expr} {ifs : List Expr} {own : List (Str × Nat)} {pos : Pos} {wi : TI} {g : TG} {tt : TT} {te : TE} (hot : HotC X) (hN : X.N.Nodup) (hi : PIH X tg iter wi) (bo : BlkOk X.N X.env.scope scope own)
    (hg : ∀ (p : Addr × Obj) (s : Shared) (H : Hp) (C : Addr) (cl : List (Str × Addr)) (fp : List Addr), Hot1 X.A p → PG (blkH X p s H scope (compEnvC scope cl C X.env) fp) tg g)
    (ht : ∀ (p : Addr × Obj) (s : Shared) (H : Hp) (C : Addr) (cl : List (Str × Addr)) (fp : List Addr), Hot1 X.A p → PTs (blkH X p s H scope (compEnvC scope cl C X.env) fp) ifs tt)
    (he : ∀ (p : Addr × Obj) (s : Shared) (H : Hp) (C : Addr) (cl : List (Str × Addr)) (fp : List Addr), Hot1 X.A p → PE (blkH X p s H scope (compEnvC scope cl C X.env) fp) elt te) (hs : ∀ x, foldedSetIterable iter X.env x = pure x := by intro _; rfl) :
    PE X (.ListComp elt [⟨tg, iter, ifs, 0⟩] scope pos) (tLc wi g tt te (own.map (·.2))) := by
  constructor
  intro pins s σ H Q I h
  rw [eval_ListComp]
  obtain ⟨p, ph, pm⟩ := id hot
  have clo : ∀ y ∈ scope.names, y.2 = .free → ∃ c, X.env.cells.lookup y.1 = some c := fun y hy e => I.ok.has _ ((bo.free y hy e).imp id id)
  refine wpAny_comprehension_free (use := none) rfl hs (closure_ok clo) bo.kind (fun y hy e => (bo.uniq y hy).trans (congrArg some e)) ?_
  refine thn (hi.run pins s σ H _ I h) fun xv s1 q1 => thn q1 fun itv s2 q2 => ?_
  obtain ⟨it, fp, tn, J, H2, ev, I2, T, st2, f2, q⟩ := q2
  subst ev
  refine wpAny_newObj_type (newEnv_comp ?_) (show (0 : Nat) ≤ sizeLine from by decide)
  -- the new list
  have dN : H2 s2.heap.objs.size = none := I2.hok.fresh (Nat.le_refl _)
  obtain ⟨Wt, ⟨m0, w0⟩, turn⟩ := q _ dN
  have old : ∀ {b o}, s2.heap.get? b = some o → (s2.heap.push { cls := .type "list", data := .seq ([] : List Value).toArray }).get? b = some o := fun e => Heap.get?_push_of_some _ e
  have I3 := I2.laid (t' := s2.toks) (h' := s2.heap.push { cls := .type "list", data := .seq ([] : List Value).toArray }) (o := .lst []) (fun b o e => old e) (Nat.le_refl _) ⟨Nat.zero_le _, [], 0, .nil, Heap.get?_push_size _ rfl⟩
  generalize hD : s2.heap.objs.size = D at *
  generalize hs3 : ({ s2 with heap := s2.heap.push { cls := .type "list", data := .seq ([] : List Value).toArray }, toks := s2.toks } : Shared) = s3 at I3
  have eh : s2.heap.push { cls := .type "list", data := .seq ([] : List Value).toArray } = s3.heap := by rw [← hs3]
  have es : ({ s2 with heap := s2.heap.push { cls := .type "list", data := .seq ([] : List Value).toArray } } : Shared) = s3 := by rw [← hs3]
  generalize hH3 : upd H2 D (.lst []) = H3 at *
  have small : ∀ b ∈ fp, b < D := fun b hb => by
    obtain ⟨o, e, _⟩ := T.obj _ _ st2 b hb
    exact hD ▸ Heap.lt_size e
  have f3 : ∀ b ∈ fp, FpOk X pins H3 b ∧ b < s3.heap.objs.size := fun b hb => by
    refine ⟨⟨?_, (f2 b hb).2⟩, ?_⟩
    · rw [← hH3, upd_ne (Nat.ne_of_lt (small b hb))]; exact (f2 b hb).1
    · rw [← eh, Heap.size_push, hD]; exact Nat.lt_succ_of_lt (small b hb)
  have st3 : tn 0 s3.heap := T.keep _ _ _ st2 fun b _ o e => eh ▸ old e
  have nfp : ∀ b ∈ fp, H3 b = none := fun b hb => (f3 b hb).1.1
  have hp := I3.pin p (List.mem_append_left _ pm)
  have npS : p.1 ∉ frs X.stack := fun hm => (List.mem_cons.mp (I3.stkSub p.1 hm)).elim hp.2.2.1 hp.2.2.2.1
  have B4 := block_start I3 bo hN f3
  have kp4 : ∀ b o, s3.heap.get? b = some o → (pushCells (s3.heap.push { cls := .type "dict", data := .dict #[] }) scope.names).get? b = some o := fun b o e => pushCells_keeps _ _ _ _ (Heap.get?_push_of_some _ e)
  have nL : p.1 ≠ (compEnvC scope (cellsFrom (s3.heap.objs.size + 1) scope.names (cloFrom X.env.cells scope.names [])) s3.heap.objs.size X.env).locals := Nat.ne_of_lt (Heap.lt_size hp.1)
  have I4 := blkH_in (p := p) B4 ⟨kp4 _ _ hp.1, hp.2.1, nL, npS, hp.2.2.2.2⟩
  have pg := hg p s3 H3 s3.heap.objs.size (cellsFrom (s3.heap.objs.size + 1) scope.names (cloFrom X.env.cells scope.names [])) fp ph
  have pt := ht p s3 H3 s3.heap.objs.size (cellsFrom (s3.heap.objs.size + 1) scope.names (cloFrom X.env.cells scope.names [])) fp ph
  have pe := he p s3 H3 s3.heap.objs.size (cellsFrom (s3.heap.objs.size + 1) scope.names (cloFrom X.env.cells scope.names [])) fp ph
  show codeAny _ _ (.compStart (.ListComp elt [⟨tg, iter, ifs, 0⟩] scope pos) 0 (.ref it) (.ref D) (compEnvC scope (cellsFrom (s3.heap.objs.size + 1) scope.names (cloFrom X.env.cells scope.names [])) s3.heap.objs.size X.env)) _ { s3 with heap := pushCells (s3.heap.push { cls := .type "dict", data := .dict #[] }) scope.names }
  have cL : (compEnvC scope (cellsFrom (s3.heap.objs.size + 1) scope.names (cloFrom X.env.cells scope.names [])) s3.heap.objs.size X.env).locals = s3.heap.objs.size := rfl
  generalize compEnvC scope (cellsFrom (s3.heap.objs.size + 1) scope.names (cloFrom X.env.cells scope.names [])) s3.heap.objs.size X.env = ce at *
  have st4 : tn 0 (pushCells (s3.heap.push { cls := .type "dict", data := .dict #[] }) scope.names) := T.keep _ _ _ st3 fun b _ o e => kp4 b o e
  generalize hs4 : ({ s3 with heap := pushCells (s3.heap.push { cls := .type "dict", data := .dict #[] }) scope.names } : Shared) = s4 at *
  have st4 : tn 0 s4.heap := by rw [← hs4]; exact st4
  have stay : ∀ {σ' : L2.St} {H' : Hp} {s' : Shared}, Inv (blkH X p s3 H3 scope ce fp) [] σ' H' s' → (∀ b ∈ fp, H' b = none) → ∀ b ∈ fp, FpOk (blkH X p s3 H3 scope ce fp) [] H' b := fun {σ' H' s'} I' hn b hb => by
    refine ⟨hn b hb, (I'.ok.exf b hb).1, I'.ok.exfs b hb, .inl hb, fun x c e => (I'.ok.exf b hb).2 x c e, fun q hq => ?_⟩
    rcases List.mem_cons.mp hq with e | e
    · rw [e]; exact (f3 b hb).1.2.2.2.2.2 p (List.mem_append_left _ pm)
    · cases e
  have hb' : HotC (blkH X p s3 H3 scope ce fp) := ⟨p, ph, List.mem_cons_self⟩
  suffices loop : codeAny (model X.prog X.w) X.A (.compLoop (.ListComp elt [⟨tg, iter, ifs, 0⟩] scope pos) 0 (.ref it) (.ref D) ce) (compPost (model X.prog X.w) X.A X.xe none (EP X pins σ Q) (.ref D) s3.heap.objs.size) s4 by
    exact codeAny_compStart_list loop (T.self X.A 0 _ _ _ st4 loop)
  apply compLoop_any (fun n s' => ∃ i H', Inv (blkH X p s3 H3 scope ce fp) [] (wipe σ (own.map (·.2))) H' s' ∧ tn i s'.heap ∧ (∀ b ∈ fp, H' b = none) ∧ Wt i n H') ?_ m0 ⟨0, H3, I4, st4, nfp, w0⟩
  intro n s5 h5
  obtain ⟨i, H5, I5, st5, n5, w5⟩ := h5
  rcases turn i n H5 w5 with ⟨stop, fin⟩ | ⟨go, Nx, hNx, step⟩
  · refine thnF (T.done (blkH X p s3 H3 scope ce fp) rfl rfl rfl hb' i [] s5 _ H5 (fun _ _ => False) I5 (stay I5 n5) st5 stop) fun r s6 ⟨er, I6⟩ => ?_
    subst er
    have I7 : Inv X pins σ H5 s6 := I3.call' (ch := fp) I6.os I6.base I6.hok I6.bare fun b hb => ⟨(f3 b hb).1.2.2.2.1, (f3 b hb).1.2.1, (f3 b hb).1.2.2.2.2.1, (f3 b hb).1.2.2.2.2.2⟩
    have nC : H5 s3.heap.objs.size = none := cL ▸ I6.free
    obtain ⟨m, hn, _⟩ := I6.loc
    have hn : s6.heap.Ns s3.heap.objs.size m := cL ▸ hn
    obtain ⟨g0, g1, g2, g3, g4, g5⟩ := I3.fpOk (H' := H5) (Nat.le_refl _) nC
    exact ⟨m, hn, fun h'' sb => ⟨.ref D, H5, I7.turned (t' := s6.toks) (fun b o hb e => (sb.2 b hb).trans e) g0 g1 g3 g4 g5, rfl, fin⟩⟩
  · refine thnF (T.item (blkH X p s3 H3 scope ce fp) rfl rfl rfl hb' i [] s5 _ H5 (fun _ _ => False) I5 (stay I5 n5) st5 go) fun r s6 ⟨u, er, h6⟩ => ?_
    subst er
    refine thnF h6 fun _ s7 ⟨x, H7, I7, r7, y7, st7, n7⟩ => ?_
    have J7 := I7.pinned (stay I7 n7) (T.obj _ _ st7)
    refine thnF (pg.run _ s7 _ H7 x u _ J7 r7 (step x H7 y7)) fun _ s8 ⟨σ8, H8, I8, same, q8⟩ => ?_
    have back : ∀ {s' : Shared} {H' : Hp}, Inv (blkH X p s3 H3 scope ce fp) ([] ++ pinsAt fp s7.heap) σ8 H' s' → Nx H' → ∃ m, m < n ∧ ∃ i H', Inv (blkH X p s3 H3 scope ce fp) [] (wipe σ (own.map (·.2))) H' s' ∧ tn i s'.heap ∧ (∀ b ∈ fp, H' b = none) ∧ Wt i m H' := fun {s' H'} I' nx => by
      obtain ⟨m', lt, w'⟩ := hNx H' nx
      have held : ∀ b ∈ fp, ∀ o, s7.heap.get? b = some o → s'.heap.get? b = some o ∧ H' b = none := fun b hb o e => by
        have z := I'.pin (b, o) (List.mem_append_right _ (List.mem_append_right _ (mem_pinsAt hb e)))
        exact ⟨z.1, z.2.1⟩
      refine ⟨m', lt, i + 1, H', (I'.unpinned (pins := [])).weak ?_ fun j v e => ?_, T.keep _ _ _ st7 fun b hb o e => (held b hb o e).1, fun b hb => ?_, w'⟩
      · rw [← same, wipe_length]
      · exact (wipe_some (same ▸ e)).1
      · obtain ⟨o, e, _⟩ := T.obj _ _ st7 b hb
        exact (held b hb o e).2
    refine thnF (pt.run _ s8 σ8 H8 _ I8 q8) fun b s9 ⟨H9, I9, q9⟩ => ?_
    cases b with
    | false => exact back I9 q9
    | true =>
      refine thnF (pe.run _ s9 σ8 H9 _ I9 q9) fun z s10 ⟨yv, H10, I10, r10, acc, gD, lt10, nx⟩ => ?_
      exact app_ok (X := blkH X p s3 H3 scope ce fp) I10 gD lt10 r10 fun s11 I11 => back I11 nx
end
end Cd

set_option Elab.async false
set_option linter.all false
set_option autoImplicit false
set_option maxRecDepth 100000
set_option maxHeartbeats 1000000
/-! CoreH4: a def that is handed the handled exception; isinstance there. -/
namespace Cd
open PySem PySem.Spec PyProof.Rows L2 HotX L2H
section
variable {CXg : CXT} {P : Program} {w : World} {K : PySem.W.Frag} {mg : Str → Option Value} {base : Heap} {x qual : Str} {params : Arguments} {body : List Stmt} {scope : Scope} {f : Addr} {fd : FuncData} {N ps : List Str} {k : Nat}
/-- the def at f, its argument the exception that is handled -/
theorem run_held (FD : FunD K x qual params body scope [] [] f fd) (S : FnScope N ps scope) {A : Around} {outer : List Env} {s : Shared} {H : Hp} {args : Args} {us : List Value} {vs : List V} {Q : VK} {E : XK} {p : Addr × Obj}
    (hr : RoomH (k + 1) A) (hot : Hot1 A p) (hpin : PinOk outer H s p) (e0 : Env0 P w K mg base A outer s H) (hb : BindsTo s fd args (ps.zip us)) (r : Vals vs us) (hl : vs.length = ps.length)
    (hbody : ∀ cdv, RoomH k (A.deeper (envOfC qual scope s.heap.objs.size f cdv)) → ∃ t, PSs (cxH CXg P w K mg base N qual scope f cdv A outer s H E p) body t ∧ t { nx := fun _ H' => Q .non H', rt := Q } (L2.start N vs) H) :
    codeAny (model P w) A (.call (.ref f) args) (CR CXg outer P w H s Q E) s := by
  obtain ⟨oc, od, dV, kV, doc, pm, an, cdv, ct, osl, efd, lk, hcd, _, _⟩ := FD.ex
  subst efd
  have inK : K.In s.heap := e0.mod.kin.keeps fun b o q => (e0.bs b o q).1
  have kinds : ∀ y ∈ ps.zip us, scope.names.lookup y.1 = some .local ∨ (scope.names.lookup y.1 = some .cell ∧ ((cellsFrom (s.heap.objs.size + 1) scope.names []).lookup y.1).isSome = true) := fun y hy => by
    have hm : y.1 ∈ ps := (List.of_mem_zip (show (y.1, y.2) ∈ ps.zip us from hy)).1
    exact (S.par _ hm).imp id fun q => ⟨q, PySem.W.cellsFrom_some _ _ _ (.inl q)⟩
  apply codeAny_call_function hr.depth (inK _ _ lk) rfl S.co S.gen rfl (PySem.W.codeRec_of inK hcd)
  apply hb
  apply wpAny_newFunctionEnv_cells S.kind kinds
  intro env he s1 st
  subst he
  refine ⟨(e0.mod.nolimit.keeps fun b o q => (e0.bs b o q).1).keeps st.toInCall.keep, codeAny_func ?_⟩
  obtain ⟨t, ht, hq⟩ := hbody cdv (hr.deeper _)
  have I0 := inv_startH (E := E) (CX := CXg) S hpin e0 hl r st
  apply wpAny_mono (ht.run [] s1 (L2.start N vs) H _ I0 hq) ?_ (fun _ _ z => z)
  intro fl s2 out
  have give : ∀ {τ : L2.St} {G : Hp} {v : V} {u : Value}, Inv (cxH CXg P w K mg base N qual scope f cdv A outer s H E p) [] τ G s2 → RelV v u → Q v G → CE outer P w H s Q u s2 :=
    fun {τ G v u} J rv q => ⟨v, G, J.os, J.bare, J.base, J.hok, rv, q⟩
  cases fl
  case ret u => obtain ⟨v, τ, G, J, rv, q⟩ := out; exact give J rv q
  case next => obtain ⟨τ, G, J, q⟩ := out; exact give (v := .non) (u := .none) J rfl q
  case brk => obtain ⟨_, _, _, q⟩ := out; exact q.elim
  case cont => obtain ⟨_, _, _, q⟩ := out; exact q.elim
end
/-- isinstance(e, c), e the pinned exception -/
theorem call_isP {X : Cx} {a D : Addr} {oe : Obj} (C : ExcC X.K D) (hz : Zc (.ref D) none oe) (hf : ∃ vs, oe.data = .fields vs) (hp : (a, oe) ∈ X.pn) : CallR X (.builtin "isinstance") (rIsE X.K D a) := by
  intro pins s σ H xs us Q I r ⟨c, cv, b, ex, hcv, e, q⟩
  subst ex
  obtain ⟨u, rfl, ru⟩ : ∃ u, us = [.ref a, u] ∧ RelV c u := by
    cases r with
    | cons r1 r2 => cases r2 with
      | cons r3 r4 => cases r4; cases r1; exact ⟨_, rfl, r3⟩
  have eu := hcv u ru
  subst eu
  have got := (I.pin (a, oe) (List.mem_append_left _ hp)).1
  obtain ⟨vs, hv⟩ := hf
  have J : PySem.W.InstAt s.heap a oe D none := by
    obtain ⟨o1, o2, o3, o4⟩ := oe
    obtain ⟨z1, z2⟩ := hz
    simp only at z1 z2 hv
    subst z1 z2 hv
    exact ⟨got, rfl, rfl, trivial⟩
  apply PySem.W.kia_one (PySem.W.handS_kitx_exc C.hg C.hk C.hs C.hd C.ha C.hn C.ht C.hm) I.kIn J e (fun z => nomatch z)
  intro tk
  exact ⟨.bl b, H, I.kept (t' := tk) fun _ _ z => z, rfl, q⟩
/-- isinstance of the exception at a: t tells by the class -/
def excD (t : V → Option Bool) (a : Addr) : List D → Option D
  | [.cst (.ref b), .cst c] => if b = a then (t c).map D.bl else none
  | _ => none
theorem excD_ok {K : PySem.W.Frag} {C a : Addr} {t : V → Option Bool} (ht : ∀ c b, t c = some b → ∃ cv, (∀ u, RelV c u → u = cv) ∧ PySem.W.kitOne K (.ref C) cv = some b) : CSem K (excD t a) (rIsE K C a) := by
  intro ds c h F H vs Q e r k
  unfold excD at h
  split at h
  · rename_i b c'
    split at h
    · rename_i eb
      subst eb
      unfold RpL at r
      obtain ⟨v, w, rfl, r1, r2⟩ := r
      unfold RpL at r2
      obtain ⟨v2, w2, rfl, r3, r4⟩ := r2
      unfold RpL at r4
      subst r4
      unfold Rp at r1 r3
      subst r1 r3
      cases hq : t _ with
      | none => rw [hq] at h; cases h
      | some q =>
        rw [hq] at h
        cases h
        obtain ⟨cv, h1, h2⟩ := ht _ _ hq
        exact ⟨_, cv, q, rfl, h1, h2, k F H _ (Nw.refl e) (by unfold Rp; rfl)⟩
    · cases h
  · cases h
end Cd

set_option Elab.async false
set_option linter.all false
set_option autoImplicit false
set_option maxRecDepth 100000
set_option maxHeartbeats 1000000
/-! CoreH5: a lambda made, handed on, called; its exception without context. -/
namespace Cd
open PySem PySem.Spec PyProof.Rows L2 HotX L2H LamX
abbrev lq (X : Cx) : Str := X.env.qual ++ "<lambda>"
abbrev lobj (X : Cx) (ar : Arguments) (bd : Expr) (sc : Scope) (pm : Value) (c' : Addr) (ct : Value) : Obj := PySem.W.kla_obj "<lambda>" (lq X) ar bd sc (cloFrom X.env.cells sc.names []) pm c' ct
section
variable {X : Cx} {pins : List (Addr × Obj)} {σ : L2.St} {H : Hp} {s : Shared}
theorem off_frames (I : Inv X pins σ H s) {a : Addr} (h : s.heap.objs.size ≤ a) : a ∉ frs X.stack := fun m => by
  rcases List.mem_cons.mp (I.stkSub _ m) with e | e
  · subst e; exact absurd I.lt (Nat.not_lt.mpr h)
  · exact I.nofs h e
/-- the lambda's function object is new; its code object is new, or the table has it -/
theorem lam_new {T : List (Addr × Str)} {c P : Addr} {ar : Arguments} {bd : Expr} {sc : Scope} {pos : Pos} {Er Q : Value → Shared → Prop} (I : Inv X pins σ H s) (TB : TabB X.base X.mg c P) (hco : X.env.code = .ref c)
    (mT : (P, lq X) ∈ T) (uT : ∀ p ∈ T, p.1 = P → p.2 = lq X) (hT : Tabs T H) (nodef : defaultsOf ar X.env = ([], [])) (clo : ∀ y ∈ sc.names, y.2 = .free → ∃ c, X.env.cells.lookup y.1 = some c)
    (h : ∀ (f c' : Addr) (pm ct : Value) (G : Hp) (s' : Shared), Inv X pins σ G s' → ExtN H G → (∀ b, G b = none → H b = none) → Tabs T G → s'.heap.get? f = some (lobj X ar bd sc pm c' ct) → G f = none → f ∉ frs X.stack → G c' = some (CodeO c' (lq X)) → Q (.ref f) s') :
    wpAny (model X.prog X.w) X.A (eval (.Lambda ar bd sc pos) X.env) Q Er s := by
  obtain ⟨tb, gP, tri, all⟩ := hT _ mT
  have oP := I.hok P _ gP
  apply PySem.W.kla_eval nodef
  cases found : codeAmong pos tb.toList with
  | some cv =>
    obtain ⟨c', rfl, gc⟩ := all pos cv found
    apply PySem.W.kla_makeFunctionHit (mg := X.mg) (c := c) (P := P) (ps := tb) (closure_ok clo) I.ok.glob (I.mod.glob.keeps I.bk) hco (TB.code.keeps I.bk) oP tri found (TB.bm.keeps I.bk)
    intro ct g tk up sz
    have J := I.kept (t' := tk) (h' := g.push (lobj X ar bd sc ((X.mg "__name__").getD .none) c' ct)) fun b o e => Heap.get?_push_of_some _ (up b o e)
    exact h g.objs.size c' _ ct H _ J (ExtN.refl H) (fun _ z => z) hT (Heap.get?_push_size _ rfl) (I.hok.fresh sz) (off_frames I sz) gc
  | none =>
    apply PySem.W.kla_makeFunction (mg := X.mg) (c := c) (P := P) (ps := tb) (closure_ok clo) I.ok.glob (I.mod.glob.keeps I.bk) hco (TB.code.keeps I.bk) oP tri found TB.gP (TB.bm.keeps I.bk)
    intro c' ct g tk up ge lt rec gtb
    obtain ⟨c2, oc, vs, t, e2, goc, dc, nm⟩ := rec
    cases e2
    have sz := Nat.le_trans ge (Nat.le_of_lt lt)
    have nc : H c' = none := I.hok.fresh ge
    have J := inv_table (q := lq X) (t' := tk) (more := #[rawInt pos.line, rawInt pos.col, .ref c']) (h' := g.push (lobj X ar bd sc ((X.mg "__name__").getD .none) c' ct)) I gP (fun b o hb e => Heap.get?_push_of_some _ (up b o hb e)) (Heap.get?_push_of_some _ gtb) ge
      ⟨oc, vs, t, Heap.get?_push_of_some _ goc, dc, nm⟩
    have nPc : P ≠ c' := ne_of_none gP nc
    have hE : ExtN H (upd (upd H P (.tbl (tb ++ #[rawInt pos.line, rawInt pos.col, .ref c']))) c' (CodeO c' (lq X))) := fun b o e n => by
      have nb : b ≠ P := fun z => by subst z; rw [gP] at e; exact n tb (Option.some.inj e).symm
      rw [upd_ne (ne_of_none e nc), upd_ne nb]; exact e
    have thr : ∀ b, upd (upd H P (.tbl (tb ++ #[rawInt pos.line, rawInt pos.col, .ref c']))) c' (CodeO c' (lq X)) b = none → H b = none := fun b z => by
      by_cases h1 : b = c'
      · subst h1; exact nc
      · rw [upd_ne h1] at z
        by_cases h2 : b = P
        · subst h2; rw [upd_same] at z; cases z
        · rw [upd_ne h2] at z; exact z
    have nf : g.objs.size ≠ c' := Nat.ne_of_gt lt
    have nf2 : g.objs.size ≠ P := Nat.ne_of_gt (Nat.lt_of_lt_of_le (Heap.lt_size oP) sz)
    refine h g.objs.size c' _ ct _ _ J hE thr (fun p hp => ?_) (Heap.get?_push_size _ rfl) ?_ (off_frames I sz) upd_same
    · by_cases hb : p.1 = P
      · rw [uT p hp hb, hb]
        have tl : (tb ++ #[rawInt pos.line, rawInt pos.col, .ref c']).toList = tb.toList ++ [rawInt pos.line, rawInt pos.col, .ref c'] := by simp
        refine ⟨_, (upd_ne nPc).trans upd_same, tl ▸ PySem.TriplesOk_snoc _ _ _ _ tri, fun q cv hq => ?_⟩
        rw [tl] at hq
        rcases among_app _ tri hq with z | z
        · obtain ⟨c0, e1, e2⟩ := all q cv z
          exact ⟨c0, e1, hE _ _ e2 codeO_ne⟩
        · exact ⟨c', z, upd_same⟩
      · obtain ⟨tb2, a1, a2, a3⟩ := hT p hp
        refine ⟨tb2, ((upd_ne (ne_of_none a1 nc)).trans (upd_ne hb)).trans a1, a2, fun q cv hq => ?_⟩
        obtain ⟨c0, e1, e2⟩ := a3 q cv hq
        exact ⟨c0, e1, hE _ _ e2 codeO_ne⟩
    · rw [upd_ne nf, upd_ne nf2]
      exact I.hok.fresh sz
end
/-- the lambda's body's context; what leaves it has no context -/
def lamC (X : Cx) (A : Around) (outer : List Env) (s : Shared) (H : Hp) (E : XK) (sc : Scope) (f c' : Addr) : Cx := { lamCx X A outer s H E sc f c' with
  xe := fun e s' => wpAny (model X.prog X.w) (A.deeper (lamEnv X sc s.heap.objs.size f c')) (leaving (lamEnv X sc s.heap.objs.size f c') e) (fun _ s'' => L2N.CX X.prog X.w outer H s E e s'') (fun e' s'' => L2N.CX X.prog X.w outer H s E e' s'') s' }
theorem lamC_takes {X : Cx} {A : Around} {outer : List Env} {s : Shared} {H : Hp} {E : XK} {sc : Scope} {f c' : Addr} : L2N.Takes (lamC X A outer s H E sc f c') (fun cls d _ H => E cls d H) := L2N.takes_of rfl rfl rfl rfl
theorem lamC_in {X : Cx} {A : Around} {outer : List Env} {s s' : Shared} {H H' : Hp} {E : XK} {sc : Scope} {f c' : Addr} {pins : List (Addr × Obj)} {σ : L2.St} (I : Inv (lamCx X A outer s H E sc f c') pins σ H' s') : Inv (lamC X A outer s H E sc f c') pins σ H' s' where
  ok := ⟨I.ok.mod, I.ok.kind, I.ok.glob, I.ok.blt, I.ok.above, I.ok.inj, I.ok.has, I.ok.cab, I.ok.hd, I.ok.frames, I.ok.stk, I.ok.exf, I.ok.bs, I.ok.bsz, I.ok.noex, I.ok.exfs, I.ok.funs, I.ok.frf⟩
  os := I.os
  bare := I.bare
  base := I.base
  loc := I.loc
  cell := I.cell
  free := I.free
  freeC := I.freeC
  hok := I.hok
  len := I.len
  pin := I.pin
/-- x() in a try of the def that got the lambda, Z that def's context entered at s -/
theorem pe_actN {X : Cx} {pins : List (Addr × Obj)} {σ : L2.St} {H : Hp} {s : Shared} {CXg : CXT} {Eg : XK} {Ng : List Str} {qg : Str} {sg : Scope} {g f c' : Addr} {cdg pm ct : Value} {ar : Arguments} {bd : Expr} {sc : Scope} {k i : Nat} {a : Str} {pn : List (Addr × Obj)} {xe : Value → Shared → Prop} {W : WX} {E : XK} {tb : TE} {p1 p2 : Pos}
    (I : Inv X pins σ H s) (L : LamS X.env.scope sc) (of : s.heap.get? f = some (lobj X ar bd sc pm c' ct)) (nf : H f = none) (ff : f ∉ frs X.stack) (bnd : bindArgs (PySem.W.kla_fn "<lambda>" (lq X) ar bd sc (cloFrom X.env.cells sc.names []) pm (.ref c') ct) ⟨[], []⟩ = pure [])
    (tk : L2N.Takes ((cxOf CXg X.prog X.w X.K X.mg X.base Ng qg sg g cdg X.A X.stack s H Eg).tr pn xe) W) (hr : Room (k + 1) (X.A.deeper (envOfC qg sg s.heap.objs.size g cdg)))
    (body : ∀ (A : Around) (outer : List Env) (s : Shared) (H : Hp), Room k (A.deeper (lamEnv X sc s.heap.objs.size f c')) → PE (lamC X A outer s H E sc f c') bd tb)
    (hN : Ng[i]? = some a) (hv : Vis sg a) (hd : (a == ("__debug__" : Str)) = false := by decide) (hcd : (a == ("__classdict__" : Str)) = false := by decide) :
    PE ((cxOf CXg X.prog X.w X.K X.mg X.base Ng qg sg g cdg X.A X.stack s H Eg).tr pn xe) (.Call (.Name a p1) [] [] p2)
      (fun τ G Q => τ[i]? = some (some (.ref f)) ∧ G c' = some (CodeO c' (lq X)) ∧ (∀ cls d H', E cls d H' → W cls d τ H') ∧ tb σ G Q) := ⟨fun pz s0 τ G Q I0 h => by
  obtain ⟨h1, h2, hW, h3⟩ := h
  apply wpAny_Call_Name_kw
  refine thn ((pe_var (pos := p1) (i := i) hN hv hd hcd).run pz s0 τ G (fun v G1 => v = .ref f ∧ G1 = G) I0 ⟨.ref f, h1, rfl, rfl⟩) fun u s1 hu => ?_
  obtain ⟨v, G1, I1, ru, ev, eG⟩ := hu
  subst ev eG
  cases (show u = Value.ref f from ru)
  have o1 := I1.base.keep f _ of nf ff fun z => nomatch (show f ∈ ([] : List Addr) from z)
  apply PySem.W.callWith_F0 ⟨_, _, _, _, o1⟩
  obtain ⟨⟨oc, vs, t, goc, dc, nm⟩, _, _⟩ := I1.hok c' _ h2
  apply wpAny_call
  refine codeAny_mono (R := CR (L2N.CX X.prog X.w) (envOfC qg sg s.heap.objs.size g cdg :: X.stack) X.prog X.w G1 s1 Q E) ?_ fun r s' hq => ?_
  · apply PySem.W.kla_callFunE hr.depth o1 rfl L.co L.gen rfl ⟨c', oc, vs, t, rfl, goc, dc, nm⟩
    rw [show (([] : List Value) ++ []) = [] from rfl, bnd]
    apply wpAny_pure
    refine wpAny_newFunctionEnv (fun y hy => (L.own y hy).2) (fun y hy => nomatch hy) (fun g1 ns sb => ⟨I1.nolimit.fresh _ sb, ?_⟩) L.kind
    show codeAny _ _ (.expr bd (lamEnv X sc s1.heap.objs.size f c')) _ _
    have up : ∀ b o, s1.heap.get? b = some o → g1.get? b = some o := fun b o e => sb.extBut b o (Nat.ne_of_lt (Heap.lt_size e)) (Heap.get?_push_of_some _ e)
    have J := lamC_in (lam_start2 (E := E) (f := f) (c' := c') (tk := s1.toks + ([] : List (Str × Value)).length) (A := X.A.deeper (envOfC qg sg s.heap.objs.size g cdg)) (outer := envOfC qg sg s.heap.objs.size g cdg :: X.stack) I L I1.env0 hr.hd I1.base ns up)
    apply PySem.W.kla_codeExpr
    refine wpAny_mono ((body _ _ s1 G1 (hr.deeper _)).run [] _ _ G1 Q J h3) (fun v s' q => ?_) fun e s' q => q
    obtain ⟨w', G', J', rv, q⟩ := q
    exact ⟨w', G', J'.os, J'.bare, J'.base, J'.hok, rv, q⟩
  · cases r with
    | error e => exact tk e s' (L2N.XE.of_call I1 (fun cls d H' z => hW cls d H' z) hq)
    | ok fl =>
      cases fl
      case ret u => exact I1.after hq
      all_goals exact hq.elim⟩
end Cd

set_option Elab.async false
set_option linter.all false
set_option autoImplicit false
set_option maxRecDepth 100000
set_option maxHeartbeats 1000000
/-! CoreH6: _law_error(lambda: e). -/
namespace Cd
open PySem PySem.Spec PyProof.Rows L2 HotX L2H LamX
/-- the slots of a def that is handed the exception at a -/
abbrev hS (a : Addr) : L2.St := [some (V.ref a)]
abbrev hR (a : Addr) : Rho := [.dat (.cst (V.ref a))]
/-- _law_names, called with the handled exception, which has no dict -/
def NamesH (P : Program) (w : World) (K : PySem.W.Frag) (mg : Str → Option Value) (base : Heap) (k : Nat) (f : Addr) (fd : FuncData) (wd : Str → Option Str) : Prop :=
  ∀ (A : Around) (outer : List Env) (s : Shared) (F H : Hp) (p : Addr × Obj) (x y : Str) (C : Addr) (args : Args) (Q : VK) (E : XK), RoomH k A → Hot1 A p → PinOk outer H s p → Zc (.ref C) none p.2 → (∃ vs, p.2.data = .fields vs) → Env0 P w K mg base A outer s H →
    mg x = some (.ref C) → wd x = some y → BindsTo s fd args ((["e"] : List Str).zip [Value.ref p.1]) → Rep K F H (hS p.1) (hR p.1) → (∀ F' H', Stp K F H (hS p.1) (hR p.1) F' H' (hS p.1) (hR p.1) → Q (.str y) H') →
    codeAny (model P w) A (.call (.ref f) args) (CR (L2N.CX P w) outer P w H s Q E) s
theorem takes0N {X : Cx} : L2N.Takes X (fun _ _ _ _ => False) := fun u s' h => by
  obtain ⟨a, B, sI, pins, σ, H, cls, d, _, _, _, _, _, _, _, _, z⟩ := h
  exact z.elim
theorem mark_room {k : Nat} {A : Around} {v : Option Value} (r : RoomH k A) : RoomH k (A.mark v) := ⟨r.dp, r.un⟩
section
/-- _law_names(e) in the suite -/
theorem pe_names {X : Cx} {k : Nat} {f : Addr} {i : Nat} {fd : FuncData} {wd : Str → Option Str} {a : Addr} {oe : Obj} {pn : List (Addr × Obj)} {fx q pos : Pos} {cls : Value} {d : Option Addr} (NH : NamesH X.prog X.w X.K X.mg X.base k f fd wd) (hr : RoomH k X.A) (hg : Gl X "_law_names") (hm : X.mg "_law_names" = some (.ref f)) (hk : PySem.W.keepIn X.K (.ref f) = true)
    (hb : Binds X.K fd ["e"] []) (hi : X.N[i]? = some "e") (hv : Vis X.env.scope "e") (hz : L2N.Zn cls d oe) (hf : ∃ vs, oe.data = .fields vs) :
    PE (X.suite a ((a, oe) :: pn)) (.Call (.Name "_law_names" fx) [.Name "e" q] [] pos) (fun σ H Q => σ[i]? = some (some (.ref a)) ∧ ∃ x y C F, cls = .ref C ∧ d = none ∧ X.mg x = some (.ref C) ∧ wd x = some y ∧ Rep X.K F H (hS a) (hR a) ∧
      ∀ F' H', Stp X.K F H (hS a) (hR a) F' H' (hS a) (hR a) → Q (.str y) H') := ⟨fun pins s σ H Q I h => by
  obtain ⟨e1, x, y, C, F, rfl, rfl, gx, gy, R, post⟩ := h
  apply wpAny_Call_Name_kw
  apply ld_glob I hg hm
  · have pa : PA (X.suite a ((a, oe) :: pn)) [.Name "e" q] (tCons (tVar i) tNil) := pa_cons (pe_var hi hv) pa_nil
    refine PySem.W.callWith_K (h₀ := X.base) I.ok.mod.kin hk (thn (pa.run pos pins s σ H (fun vs H1 => vs = [.ref a] ∧ H1 = H) I ⟨_, e1, rfl, rfl⟩) fun us s1 hu => ?_) (by rfl) (by rfl)
    obtain ⟨vs, H1, I1, r1, ev, eH⟩ := hu
    subst ev eH
    refine ⟨I1.kIn, ?_⟩
    obtain rfl : us = [.ref a] := by
      cases r1 with
      | cons r r2 => cases r2; cases r; rfl
    have P1 := I1.pin (a, oe) (List.mem_append_left _ List.mem_cons_self)
    obtain ⟨vs, hd⟩ := hf
    have hot : Hot1 (X.A.mark (some (.ref a))) (a, oe) := ⟨rfl, vs, hd, hz.2.2 vs hd⟩
    have pin : PinOk X.stack H1 s1 (a, oe) := ⟨P1.1, P1.2.1, fun m => (List.mem_cons.mp (I1.stkSub _ m)).elim P1.2.2.1 P1.2.2.2.1, P1.2.2.2.2⟩
    have b := hb s1 [.ref a] I1.kIn rfl
    rw [List.append_nil] at b
    apply wpAny_call
    refine codeAny_mono (NH _ X.stack s1 F H1 (a, oe) x y C ⟨[.ref a] ++ [], []⟩ Q (fun _ _ _ => False) (mark_room hr) hot pin hz.zc ⟨vs, hd⟩ I1.env0 gx gy b R post) fun r s2 hq => ?_
    cases r with
    | error e =>
      obtain ⟨_, _, _, _, _, _, _, _, _, _, _, _, z⟩ := hq
      exact z.elim
    | ok fl =>
      cases fl
      case ret u => exact I1.after hq
      all_goals exact hq.elim⟩
end
theorem Stp.tabs {K : PySem.W.Frag} {F H G : Hp} {σ : L2.St} {ρ : Rho} (R : Rep K F H σ ρ) (e : ExtN H G) (t : ∀ b, G b = none → H b = none) (tb : Tabs (tabsOf K) G) : Stp K F H σ ρ F G σ ρ := by
  refine ⟨⟨R.len, fun b o h => e b o (R.sub b o h) (R.nt b o h), tb, R.nt, R.dat, fun i p m h => ?_, R.dis⟩, Same.refl _, fun b o h _ n => e b o h n, t, fun b o h1 h2 => (by rw [h2] at h1; cases h1), fun _ h => .inl h, fun i m h => ⟨⟨m, h⟩, rfl⟩, fun i m h => ⟨m, h⟩⟩
  obtain ⟨a, o, e1, e2, e3, r⟩ := R.own i p m h
  exact ⟨a, o, e1, e2, e a o e3 r.nt, r⟩
theorem Rep.side {K : PySem.W.Frag} {F H : Hp} {σ : L2.St} {ρ : Rho} (R : Rep K F H σ ρ) (a : Addr) : Rep K F H (hS a) (hR a) := by
  refine ⟨rfl, R.sub, R.tab, R.nt, fun i d h => ?_, fun i p m h => ?_, fun i j _ p q m n h _ _ _ => ?_⟩
  · cases i with
    | zero => cases h; exact ⟨_, rfl, by unfold Rp; rfl⟩
    | succ i => simp [hR] at h
  · cases i with
    | zero => cases h
    | succ i => simp [hR] at h
  · cases i with
    | zero => cases h
    | succ i => simp [hR] at h
theorem Stp.side {K : PySem.W.Frag} {F H F' H' : Hp} {σ : L2.St} {ρ : Rho} {a : Addr} (R : Rep K F H σ ρ) (s : Stp K F H (hS a) (hR a) F' H' (hS a) (hR a)) : Stp K F H σ ρ F' H' σ ρ := by
  have r : RAs K F σ [.d (.cst (V.ref a))] [V.ref a] := by
    unfold RAs
    exact ⟨_, [], rfl, (by show Rp K F _ _; unfold Rp; rfl), (by unfold RAs; rfl)⟩
  exact Stp.called (as := [.d (.cst (V.ref a))]) (vs := [V.ref a]) (ρc := hR a) (ρc' := hR a) R List.nodup_nil rfl r s
/-- "" where e ends, else the words of the exception that it lets out -/
def eErr (wd : Str → Option Str) (m : SM D) : SM D := fun ρ => match m ρ with
  | .ok _ ρ' => .ok (.str "") ρ'
  | .exc x ρ' => (match x.line, wd x.name with
    | none, some y => .ok (.str y) ρ'
    | _, _ => .bad)
  | .bad => .bad
section
variable {X : Cx} {E : XK} {g k f c P CS : Addr} {fd fdn : FuncData} {pg ar : Arguments} {sg sc : Scope} {bd : Expr} {n : Nat} {wd : Str → Option Str} {m : SM D} {p1 p2 p3 p4 p5 p6 p7 p8 p9 q1 q2 q3 q4 lpos pos p : Pos} {j : Nat}
theorem e_err (hg : Gl X "_law_error") (hm : X.mg "_law_error" = some (.ref g)) (hk : PySem.W.keepIn X.K (.ref g) = true) 
    (FD : FunD X.K "_law_error" "_law_error" pg [.Try [.Expr (.Call (.Name "call" p1) [] [] p2) p3] [.ExceptHandler (some (.Name "CordError" p4)) (some "e") [.Return (some (.Call (.Name "_law_names" p5) [.Name "e" p6] [] p7)) p8] p9] [] [] q1, .Return (some (.Constant (.str "") j q2)) q3] sg [] [] g fd)
    (hb : L2.Binds X.K fd ["call"] []) (Sg : FnScope ["call", "e"] ["call"] sg) (vc : Vis sg "call") (le : sg.names.lookup ("e" : Str) = some .local) (gC : sg.names.lookup ("CordError" : Str) = some .globalImplicit) (gN : sg.names.lookup ("_law_names" : Str) = some .globalImplicit)
    (mC : X.mg "CordError" = some (.ref CS)) (mN : X.mg "_law_names" = some (.ref f)) (kN : PySem.W.keepIn X.K (.ref f) = true) (bN : L2.Binds X.K fdn ["e"] []) (NH : NamesH X.prog X.w X.K X.mg X.base (n + 1) f fdn wd)
    (hE : ∀ x y C, wd x = some y → X.mg x = some (.ref C) → PySem.W.exmOne X.K (.ref C) (.ref CS) = some true)
    (TB : TabB X.base X.mg c P) (hco : X.env.code = .ref c) (mT : (P, lq X) ∈ tabsOf X.K) (uT : ∀ p ∈ tabsOf X.K, p.1 = P → p.2 = lq X) (hr : Room (n + 2) X.A) (L : LamS X.env.scope sc) (nodef : defaultsOf ar X.env = ([], []))
    (bnd : ∀ (q : Str) (cl : List (Str × Addr)) (pm cv ctv : Value), bindArgs (PySem.W.kla_fn "<lambda>" q ar bd sc cl pm cv ctv) ⟨[], []⟩ = pure [])
    (body : ∀ (A : Around) (outer : List Env) (s : Shared) (H : Hp) (E : XK) (f c' : Addr), Room n (A.deeper (lamEnv X sc s.heap.objs.size f c')) → PE (lamC X A outer s H E sc f c') bd (DE X E m)) :
    PE X (.Call (.Name "_law_error" p) [.Lambda ar bd sc lpos] [] pos) (DE X E (eErr wd m)) := ⟨fun pins s σ H Q I h => by
  obtain ⟨F, ρ, R, h⟩ := h
  apply wpAny_Call_Name_kw
  apply ld_glob I hg hm
  · refine PySem.W.callWith_K (h₀ := X.base) I.ok.mod.kin hk ?_ (by rfl) (by rfl)
    show wpAny _ _ (spliced ((false, eval (.Lambda ar bd sc lpos) X.env) :: backTo pos (starEach [] X.env))) _ _ s
    apply Calls.spliced_cons
    apply lam_new I TB hco mT uT R.tab nodef (L.has I.ok)
    intro l c' pm ct G s1 J eN thr T1 ol nl fl gc
    refine Calls.spliced_nil ⟨J.kIn, ?_⟩
    have S1 : Stp X.K F H σ ρ F G σ ρ := Stp.tabs R eN thr T1
    obtain ⟨oc, od, dV, kV, doc, pm2, an, cdv, ct2, osl, efd, lk, hcd, _, _⟩ := FD.ex
    subst efd
    have run : codeAny (model X.prog X.w) X.A (.call (.ref g) ⟨[.ref l], []⟩) (CR (L2N.CX X.prog X.w) X.stack X.prog X.w G s1 Q (fun _ _ _ => False)) s1 := by
      have bb := hb s1 [.ref l] J.kIn rfl
      refine run_ofS (N := ["call", "e"]) (ps := ["call"]) (us := [.ref l]) (vs := [.ref l]) lk hcd Sg hr J.env0 bb (.cons rfl .nil) rfl fun hr1 => ?_
      have vE : Vis sg "e" := .inl le
      have hr2 : RoomH (n + 1) (X.A.deeper (envOfC "_law_error" sg s1.heap.objs.size g cdv)) := roomH_of hr1
      refine ⟨_, pss_cons (L2N.ps_try_as (X := cxOf (L2N.CX X.prog X.w) X.prog X.w X.K X.mg X.base ["call", "e"] "_law_error" sg g cdv X.A X.stack s1 G fun _ _ _ => False) (i := 1) (c := .ref CS)
        (tb := fun W D τ G1 => ∃ E1 : XK, (∀ cls d H', E1 cls d H' → W cls d τ H') ∧ τ[0]? = some (some (.ref l)) ∧ G1 c' = some (CodeO c' (lq X)) ∧ DE X E1 m σ G1 fun _ H' => D.nx τ H')
        rfl rfl Sg.nd rfl le ⟨gC, by decide, .inl mC⟩ takes0N (fun W pn xe tk _ => ?_) (fun a oe cls d pn hz hf => pss_one (ps_ret (pe_names (X := cxOf (L2N.CX X.prog X.w) X.prog X.w X.K X.mg X.base ["call", "e"] "_law_error" sg g cdv X.A X.stack s1 G fun _ _ _ => False) (i := 1) NH hr2 gN mN kN bN rfl vE hz hf)))) (pss_one (ps_ret pe_str)), ?_⟩
      · refine ⟨fun pz s2 τ G1 D I2 h2 => ?_⟩
        obtain ⟨E1, hW, z1, z2, z3⟩ := h2
        have act := pe_actN (i := 0) (p1 := p1) (p2 := p2) (a := "call") J L ol nl fl (bnd _ _ _ _ _) tk hr1 (fun A outer s H hr3 => body A outer s H E1 l c' hr3) rfl vc
        exact (pss_one (ps_expr (pos := p3) act)).run pz s2 τ G1 D I2 ⟨z1, z2, hW, z3⟩
      · refine ⟨fun cls d H' => ∃ x ρ' F', m ρ = .exc x ρ' ∧ XOk X.K X.mg F' H' x cls d ∧ Stp X.K F H σ ρ F' H' σ ρ', fun cls d H' hx => ?_, rfl, gc, F, ρ, S1.rep, ?_⟩
        · obtain ⟨x, ρ', F', em, xo, st⟩ := hx
          unfold eErr at h
          rw [em] at h
          dsimp only at h
          obtain ⟨C, gx, rfl, hl⟩ := xo
          cases el : x.line with
          | some v => rw [el] at h; exact h.elim
          | none =>
            cases ew : wd x.name with
            | none => rw [el, ew] at h; exact h.elim
            | some y =>
              rw [el] at hl
              rw [el, ew] at h
              subst hl
              refine ⟨true, hE _ _ _ ew gx, fun _ a na => ⟨rfl, x.name, y, C, F', rfl, rfl, gx, ew, st.rep.side a, fun F2 H2 s2 => ?_⟩, fun z => nomatch z⟩
              exact h F2 H2 (.str y) (st.trans (Stp.side st.rep s2)) (by show Rp _ _ _ _; unfold Rp; rfl)
        · unfold eErr at h
          cases em : m ρ with
          | bad => rw [em] at h; exact h.elim
          | exc x ρ' => exact fun cls d F' H' xo st => ⟨x, ρ', F', rfl, xo, S1.trans st⟩
          | ok a ρ' =>
            rw [em] at h
            exact fun F' H' b st _ => h F' H' (.str "") (S1.trans st) (by show Rp _ _ _ _; unfold Rp; rfl)
    refine wpAny_call (codeAny_mono run fun r s2 hq => ?_)
    cases r with
    | error e =>
      obtain ⟨_, _, _, _, _, _, _, _, _, _, _, _, z⟩ := hq
      exact z.elim
    | ok fl =>
      cases fl
      case ret u => exact J.after hq
      all_goals exact hq.elim⟩
end
end Cd

set_option Elab.async false
set_option linter.all false
set_option autoImplicit false
set_option maxRecDepth 100000
set_option maxHeartbeats 1000000
/-! CoreH7: the layer's own words where an exception is handled; the promise of _law_names. -/
namespace Cd
open PySem PySem.Spec PyProof.Rows L2 HotX L2H LamX
def itZl (m : SM (List D)) : SM (List D) := SM.bind m fun ds => match ds with
  | [.lst a, .lst b] => SM.pure (zipD a b)
  | _ => SM.bad
section
variable {X : Cx} {E : XK} {e e2 tg iter elt : Expr} {es ifs : List Expr} {p pos : Pos} {ms mi : SM (List D)} {is : List Nat} {U : Tgs} {T : Tg} {mt : SM Bool} {me : SM D} {scope : Scope} {own : List (Str × Nat)}
theorem PIH.wk {t t' : TI} (h : PIH X tg iter t) (w : ∀ σ H Q, t' σ H Q → t σ H Q) : PIH X tg iter t' := ⟨fun pins s σ H R I q => h.run pins s σ H R I (w σ H R q)⟩
theorem g_tpH {k n : Nat} (hc : HotC X) (h : PGs X es (DGs X is U)) (hn : (assignEach es X.env).length = n := by rfl) (hst : (assignEach es X.env).findIdx? (·.1) = none := by rfl) : PG X (.Tuple es k pos) (DG X is (gTp n U)) := PG.wk (pg_tupH hc h hn hst) fun v σ H Q hh => gtp_use hh
theorem i_zipH {tp : Pos} {elts : List Expr} {kx : Nat} (hg : Gl X "zip") (hm : X.mg "zip" = none) (ha : PA X [e, e2] (DL X E ms))
    (hs : starEach [e, e2] X.env = (false, eval e X.env) :: starEach [e2] X.env := by rfl) (hpl : (backTo pos (starEach [e2] X.env)).any (·.1) = false := by rfl) :
    PIH X (.Tuple elts kx tp) (.Call (.Name "zip" p) [e, e2] [] pos) (DI X E (itZl ms)) := PIH.wk (zip_pih hg hm ha hs hpl) fun σ H Q h =>
  (den.bind (R := RL X.K) h).mono fun x H1 ⟨F1, ρ1, ds, r, q⟩ => by
    have r : RpL X.K F1 ds x := r
    have key : ∃ a b, ds = [.lst a, .lst b] ∧ denAt X.K X.mg E (RIt X.K) F1 ρ1 (SM.pure (zipD a b)) σ H1 Q := by
      clear r
      revert q
      split
      · exact fun q => ⟨_, _, rfl, q⟩
      · exact fun q => q.bad.elim
    obtain ⟨as, bs, rfl, q⟩ := key
    unfold RpL at r
    obtain ⟨v, w, rfl, r1, r2⟩ := r
    unfold RpL at r2
    obtain ⟨v2, w2, rfl, r3, r4⟩ := r2
    unfold RpL at r4
    unfold Rp at r1 r3
    subst r4
    obtain ⟨a, vs, rfl, h1, h2⟩ := r1
    obtain ⟨b, ws, rfl, h3, h4⟩ := r3
    refine ⟨a, b, vs, ws, rfl, SqL.of (q.sub _ _ h1), SqL.of (q.sub _ _ h3), q.pure0 fun F H i e1 e2 => ?_⟩
    have hs : SqL X.K H a vs := SqL.of (e2 _ _ (e1 _ _ h1))
    have hs' : SqL X.K H b ws := SqL.of (e2 _ _ (e1 _ _ h3))
    refine ⟨fun d hd => ?_, fun hl => ⟨vs, ws, hs, hs', by unfold zipD at hl; rw [List.length_zipWith] at hl; rw [h2.len, h4.len]; omega⟩⟩
    obtain ⟨c1, c2, hc1, hc2, rfl⟩ := zip_get _ _ _ _ _ hd
    obtain ⟨u1, g1, g2⟩ := h2.get hc1
    obtain ⟨u2, g3, g4⟩ := h4.get hc2
    refine ⟨⟨vs, ws, u1, u2, hs, hs', g1, g3⟩, fun x H' ⟨T, y1, y2, e, hT, eH, hy1, hy2⟩ => ?_⟩
    subst e eH
    have := hy1 vs hs; rw [g1] at this; cases this
    have := hy2 ws hs'; rw [g3] at this; cases this
    have n := Nw.new (o := .tup [u1, u2]) e2 hT
    exact ⟨_, n, Rp.tupI upd_same (RpL.cons ((g2.mono e1).mono n.ext) (RpL.cons ((g4.mono e1).mono n.ext) RpL.nil))⟩
theorem v_lcH (hot : HotC X) (hN : X.N.Nodup) (hi : PIH X tg iter (DI X E mi)) (bo : BlkOk X.N X.env.scope scope own) (hsub : ∀ j ∈ is, j ∈ own.map (·.2))
    (hg : ∀ (p : Addr × Obj) (s : Shared) (H : Hp) (C : Addr) (cl : List (Str × Addr)) (fp : List Addr), Hot1 X.A p → PG (blkH X p s H scope (compEnvC scope cl C X.env) fp) tg (DG X is T))
    (ht : ∀ (p : Addr × Obj) (s : Shared) (H : Hp) (C : Addr) (cl : List (Str × Addr)) (fp : List Addr), Hot1 X.A p → PTs (blkH X p s H scope (compEnvC scope cl C X.env) fp) ifs (DB X E0 mt))
    (he : ∀ (p : Addr × Obj) (s : Shared) (H : Hp) (C : Addr) (cl : List (Str × Addr)) (fp : List Addr), Hot1 X.A p → PE (blkH X p s H scope (compEnvC scope cl C X.env) fp) elt (DE X E0 me)) (hs : ∀ x, foldedSetIterable iter X.env x = pure x := by intro _; rfl) :
    PE X (.ListComp elt [⟨tg, iter, ifs, 0⟩] scope pos) (DV X E (eLc (own.map (·.2)) mi T mt me)) := PE.wk (pe_lcH hot hN hi bo hg ht he hs) fun σ H Q h => lc_use hsub h
end
/-- _law_names by its body: its function of what isinstance says -/
theorem names_ok {P : Program} {w : World} {K : PySem.W.Frag} {mg : Str → Option Value} {base : Heap} {qual : Str} {params : Arguments} {body : List Stmt} {scope : Scope} {f : Addr} {fd : FuncData} {N : List Str} {k : Nat} {wd : Str → Option Str} {m : (V → Option Bool) → Addr → SM Flw} (t : Addr → V → Option Bool)
    (FD : FunD K "_law_names" qual params body scope [] [] f fd) (S : FnScope N ["e"] scope) (hN : 1 ≤ N.length)
    (hx : ∀ x y C, wd x = some y → mg x = some (.ref C) → ExcC K C ∧ (∀ c b, t C c = some b → ∃ cv, (∀ u, RelV c u → u = cv) ∧ PySem.W.kitOne K (.ref C) cv = some b) ∧ ∀ a, ∃ ρ', m (t C) a (hR a ++ blank (N.length - 1)) = .ok (.ret (.dat (.str y))) ρ')
    (hbody : ∀ (cdv : Value) (A : Around) (outer : List Env) (s : Shared) (H : Hp) (E : XK) (p : Addr × Obj) (C : Addr), RoomH k (A.deeper (PyProof.Rows.envOfC qual scope s.heap.objs.size f cdv)) → Hot1 A p →
      CallR (cxH (L2N.CX P w) P w K mg base N qual scope f cdv A outer s H E p) (.builtin "isinstance") (rIsE K C p.1) → CSem K (excD (t C) p.1) (rIsE K C p.1) →
      PSs (cxH (L2N.CX P w) P w K mg base N qual scope f cdv A outer s H E p) body (denS K mg E (m (t C) p.1))) :
    NamesH P w K mg base (k + 1) f fd wd := fun A outer s F H p x y C args Q E hr hot pin hz hf e0 gx gy hb R post => by
  obtain ⟨ec, ht, hm⟩ := hx x y C gy gx
  refine run_held FD S hr hot pin e0 hb (us := [.ref p.1]) (vs := [.ref p.1]) (.cons rfl .nil) rfl fun cdv hr1 => ?_
  refine ⟨_, hbody cdv A outer s H E p C hr1 hot (call_isP ec hz hf List.mem_cons_self) (excD_ok ht), F, hR p.1 ++ blank (N.length - 1), R.extend _, ?_⟩
  obtain ⟨ρ', em⟩ := hm p.1
  rw [em]
  intro F' H' σ' v st rv
  have rv : Rp K F' (.str y) v := rv
  unfold Rp at rv
  subst rv
  have no : noOwn (hR p.1) := fun i m z => by
    cases i with
    | zero => cases z
    | succ i => simp [hR] at z
  have left := Stp.left R no st
  have e : seen (hR p.1) ρ' = hR p.1 := by
    cases ρ' with
    | nil => rfl
    | cons z zs =>
      have nil : seen ([] : Rho) zs = [] := by cases zs <;> rfl
      show seenOne (.dat (.cst (.ref p.1))) z :: seen [] zs = _
      rw [nil]
      cases z with
      | own q mo =>
        cases q with
        | true =>
          obtain ⟨m0, z0⟩ := st.up 0 mo rfl
          cases z0
        | false => rfl
      | _ => rfl
  rw [e] at left
  exact post F' H' left
end Cd

set_option Elab.async false
set_option linter.all false
set_option autoImplicit false
set_option maxRecDepth 100000
set_option maxHeartbeats 1000000
/-! Core12: what the printed derivations use besides. -/
namespace Cd
open PySem PySem.Spec L2
theorem Room.eqRoom {k : Nat} {A : Around} (r : Room k A) : A.units + 64 < cLine := by have := r.un; omega
theorem _root_.L2.Room.eqRoom {k : Nat} {A : Around} (r : L2.Room k A) : A.units + 64 < cLine := by have := r.un; omega
theorem passL {X : Cx} : Passes (L2N.CX X.prog X.w) X E0 := fun _ _ _ _ _ _ _ h => by
  obtain ⟨_, _, _, _, _, _, _, _, _, _, _, _, z⟩ := h
  exact z.elim
/-- a constant of the module -/
def ConstD (K : PySem.W.Frag) (mg : Str → Option Value) (x : Str) (d : D) : Prop := ∃ u v, mg x = some u ∧ RelV v u ∧ ∀ F, Rp K F d v
theorem fn_bad {CX : CXT} {P : Program} {w : World} {K : PySem.W.Frag} {mg : Str → Option Value} {base : Heap} {k : Nat} {f : Addr} {fd : FuncData} {ps : List Str} : FnOk P w K mg base CX k f fd ps (spOf K mg fun _ => .bad) := by
  constructor
  · exact fun vs H Q E h => h.elim fun F h => h.elim fun ρ h => h.2.2.elim
  · intros
    rename_i h
    exact h.elim fun F h => h.elim fun ρ h => h.2.2.elim
section
variable {X : Cx} {E : XK} {x : Str} {pos : Pos} {es : List Expr} {ms : SM (List D)}
theorem e_const {d : D} (h : ConstD X.K X.mg x d) (hg : Gl X x := by rfl) (hd : (x == ("__debug__" : Str)) = false := by decide) : PE X (.Name x pos) (DE X E (eC d)) := by
  obtain ⟨u, v, h1, h2, h3⟩ := h
  exact e_glob hg h1 h2 h3 hd
/-- a list of one's own -/
def vLst (ms : SM (List D)) : SM Val := SM.bind ms fun ds => match lim ds.length (Val.own false (.lst ds)) with
  | some r => SM.pure r
  | none => SM.bad
theorem denVAt.fresh {K : PySem.W.Frag} {mg : Str → Option Value} {F H : Hp} {σ : St} {ρ : Rho} {Q : VK} {ds : List D} {vs : List V} {p : Addr} (q : denVAt K mg E F ρ (SM.pure (.own false (.lst ds))) σ H Q) (r : RpL K F ds vs) (hp : H p = none) : Q (.ref p) (upd H p (.lst vs)) := by
  have R := q.1
  have nw := Nw.lay (o := .lst vs) R.sub hp
  refine q.2 F _ (.ref p) (Stp.nw R nw) ⟨p, .lst vs, rfl, .inl hp, R.sub.free hp, upd_same, ⟨vs, rfl, r⟩, fun w => ?_⟩
  obtain ⟨_, o, z⟩ := R.ow_some w
  rw [hp] at z; cases z
theorem v_lst (h : PA X es (DL X E ms)) : PE X (.List es pos) (DV X E (vLst ms)) := PE.wk (pe_lst h) fun σ H Q h =>
  (denV.bind (R := RL X.K) h).mono fun vs H1 ⟨F1, ρ1, ds, r, q⟩ => by
    have r : RpL X.K F1 ds vs := r
    by_cases hl : ds.length ≤ sizeLine
    · have e : lim ds.length (Val.own false (.lst ds)) = some (Val.own false (.lst ds)) := if_pos hl
      rw [e] at q
      exact ⟨by rw [r.len]; exact hl, fun p hp => q.fresh r hp⟩
    · have e : lim ds.length (Val.own false (.lst ds)) = none := if_neg hl
      rw [e] at q
      exact q.2.elim
end
/-- THE RULE for a def that makes lambdas: its code object is known -/
theorem fn_okC {P : Program} {w : World} {K : PySem.W.Frag} {mg : Str → Option Value} {base : Heap} {x qual : Str} {params : Arguments} {body : List Stmt} {scope : Scope} {fd : FuncData} {N ps : List Str} {k : Nat} {g : Fn} {m : SM Flw}
    (FD : FunD K x qual params body scope [] [] (He.ga K x) fd) (S : FnScope N ps scope) (hpN : ps.length ≤ N.length) (hg : ∀ ρ, g ρ ≠ .bad → g ρ = runFn ps.length N.length m ρ)
    (hbody : ∀ (cdv : Value) (A : Around) (outer : List Env) (s : Shared) (H : Hp) (E : XK), cdv = .ref (He.cT K (x, none)).1 → L2.Room k (A.deeper (PyProof.Rows.envOfC qual scope s.heap.objs.size (He.ga K x) cdv)) → PSs (cxOf (L2N.CX P w) P w K mg base N qual scope (He.ga K x) cdv A outer s H E) body (denS K mg E m)) :
    FnOk P w K mg base (L2N.CX P w) (k + 1) (He.ga K x) fd ps (spOf K mg g) := by
  have len : ∀ vs H Q E, spOf K mg g vs H Q E → vs.length = ps.length := fun vs H Q E h => by
    obtain ⟨F, ρ, R, no, h⟩ := h
    have nb : g ρ ≠ .bad := fun z => by rw [z] at h; exact h
    have e := hg ρ nb
    have rl := R.len
    rw [List.length_map] at rl
    unfold runFn at e
    by_cases hl : ρ.length = ps.length
    · omega
    · rw [if_neg hl] at e; exact (nb e).elim
  obtain ⟨oc, od, dV, kV, doc, pm, an, cdv, ct, osl, rfl, lk, hcd, _, _⟩ := FD.ex
  obtain ⟨c, ec⟩ := He.codeIn_ref hcd
  have e1 : He.codeOf K (x, none) = c := He.codeOf_eq (p := (x, none)) lk ec
  refine fn_of lk hcd S len fun A outer s H vs Q E hr h => ⟨_, hbody cdv A outer s H E (by rw [ec]; show Value.ref c = .ref (He.codeOf K (x, none)); rw [e1]) hr, ?_⟩
  have hvl := len vs H Q E h
  obtain ⟨_, z⟩ := body_use hg (N := N.length) (by omega) h
  exact z
end Cd

set_option Elab.async false
set_option linter.all false
set_option autoImplicit false
set_option maxRecDepth 100000
set_option maxHeartbeats 1000000
/-! Core13: the words of the errors, for the printed text. -/
namespace Cd
open PySem PySem.Spec L2 L2H
def errWords : List (Str × Str) := [("InvalidScript", "script value"), ("InvalidLengths", "lengths value"), ("InvalidPlace", "place value"), ("InvalidShare", "share value"), ("InvalidStretch", "stretch value"), ("InvalidNumber", "number value"), ("InvalidAnswers", "answers value"), ("NothingToUndo", "undo value")]
def wd (x : Str) : Option Str := errWords.lookup x
theorem _root_.L2H.RoomH.eqRoomH {k : Nat} {A : Around} (r : RoomH k A) : A.units + 64 < cLine := by have := r.un; omega
theorem e_cls {X : Cx} {E : XK} {x : Str} {pos : Pos} {C : Addr} (hg : Gl X x) (hm : X.mg x = some (.ref C)) (hd : (x == ("__debug__" : Str)) = false := by decide) : PE X (.Name x pos) (DE X E (eC (.cst (.ref C)))) :=
  e_glob (v := .ref C) hg hm rfl (fun F => by unfold Rp; rfl) hd
/-- what isinstance says by the classes -/
def tK (K : PySem.W.Frag) (C : Addr) : V → Option Bool
  | .ref D => PySem.W.kitOne K (.ref C) (.ref D)
  | .ty n => PySem.W.kitOne K (.ref C) (.type n)
  | _ => none
theorem tK_ok {K : PySem.W.Frag} {C : Addr} : ∀ c b, tK K C c = some b → ∃ cv, (∀ u, RelV c u → u = cv) ∧ PySem.W.kitOne K (.ref C) cv = some b := fun c b h => by
  cases c with
  | ref D => exact ⟨.ref D, fun u q => q, h⟩
  | ty n => exact ⟨.type n, fun u q => q, h⟩
  | _ => cases h
def errNames : List Str := ["InvalidScript", "InvalidLengths", "InvalidPlace", "InvalidShare", "InvalidStretch", "InvalidNumber", "InvalidAnswers", "NothingToUndo", "InvalidText"]
/-- isinstance of each with each -/
def kitOk (K : PySem.W.Frag) : Bool := (errWords.map (·.1)).all fun x => (errNames.all fun y => decide (PySem.W.kitOne K (.ref (He.ga K x)) (.ref (He.ga K y)) = some (decide (x = y)))) && decide (PySem.W.kitOne K (.ref (He.ga K x)) (.type "ValueError") = some true)
theorem NamesH.mono {P : Program} {w : World} {K : PySem.W.Frag} {mg : Str → Option Value} {base : Heap} {j k : Nat} {f : Addr} {fd : FuncData} {wd : Str → Option Str} (h : NamesH P w K mg base j f fd wd) (l : j ≤ k) : NamesH P w K mg base k f fd wd :=
  fun A outer s F H p x y C args Q E hr => h A outer s F H p x y C args Q E (hr.mono l)
end Cd

set_option Elab.async false
set_option linter.all false
set_option autoImplicit false
set_option maxRecDepth 100000
set_option maxHeartbeats 1000000
/-! Core14: a law's head by facts, its end. -/
namespace Cd
open PySem PySem.Spec L2 L2H LamX
section
variable {K : PySem.W.Frag} {h : Heap} {mg : Str → Option Value}
theorem constI (X : K.In h) (G : h.Ns mainGlobals mg) {x : Str} {i : Int} (c : (He.Fa.int x i).ok K = true) : ConstD K mg x (.int i) := by
  obtain ⟨t, e⟩ := He.int_ok X G c
  exact ⟨_, .int i, e, ⟨t, rfl⟩, fun F => by unfold Rp; rfl⟩
theorem constT (X : K.In h) (G : h.Ns mainGlobals mg) {x : Str} {vs : List He.Dv} {ds : List D} (c : (He.Fa.glo x).ok K = true) (t : He.tupB K x vs = true) (r : ∀ F, RpL K F ds (vs.map (He.Dv.v K))) : ConstD K mg x (.tup ds) :=
  ⟨_, .ref (He.ga K x), He.glo_ok X G c, rfl, fun F => by unfold Rp; exact ⟨_, _, rfl, He.tupB_ok t F, r F⟩⟩
def excCB (K : PySem.W.Frag) (C : Addr) : Bool :=
  He.eqO (PySem.W.findIn K (.ref C) "__getattribute__") (some (some (.builtin "BaseException.__getattribute__"))) && (He.eqO (PySem.W.findIn K (.ref C) "__getattr__") (some none) && (decide (PySem.W.subIn K (.ref C) (.type "BaseException") = some true) && (PySem.W.hasDictIn K C &&
  (He.eqO (PySem.W.findIn K (.ref C) "__class__") (some (some (.builtin "object.__class__"))) && (He.eqO (PySem.W.specialIn K (.builtin "object.__class__") "__get__") (some (some (.builtin "getset_descriptor.__get__"))) && (decide (PySem.W.takesIn K (.builtin "object.__class__") = some true) && decide (PySem.W.mroIn K C (.type "object") = some true)))))))
theorem excCB_ok {C : Addr} (e : excCB K C = true) : ExcC K C := by
  unfold excCB at e
  simp only [Bool.and_eq_true] at e
  obtain ⟨h1, h2, h3, h4, h5, h6, h7, h8⟩ := e
  exact ⟨He.eqO_ok h1, He.eqO_ok h2, of_decide_eq_true h3, h4, He.eqO_ok h5, He.eqO_ok h6, of_decide_eq_true h7, of_decide_eq_true h8⟩
def excROk (K : PySem.W.Frag) (x : Str) : Bool := PySem.W.excIn K (He.ga K x) He.veBase "ValueError.__new__" && (PySem.W.keepIn K (.ref (He.ga K x)) && (decide (PySem.W.subIn K (.ref (He.ga K x)) (.type "BaseException") = some true) && decide (PySem.W.typeIn K (.ref (He.ga K x)) = some (.type "type"))))
theorem excROk_ok {x : Str} (e : excROk K x = true) : PySem.W.excIn K (He.ga K x) He.veBase "ValueError.__new__" = true ∧ PySem.W.keepIn K (.ref (He.ga K x)) = true ∧ PySem.W.subIn K (.ref (He.ga K x)) (.type "BaseException") = some true ∧ PySem.W.typeIn K (.ref (He.ga K x)) = some (.type "type") := by
  unfold excROk at e
  simp only [Bool.and_eq_true] at e
  exact ⟨e.1, e.2.1, of_decide_eq_true e.2.2.1, of_decide_eq_true e.2.2.2⟩
/-- what is asked of the errors' classes -/
def errOk (K : PySem.W.Frag) : Bool := errWords.all fun p => (He.Fa.glo p.1).ok K && (excCB K (He.ga K p.1) && decide (PySem.W.exmOne K (.ref (He.ga K p.1)) (.ref (He.ga K "CordError")) = some true))
theorem errOk_at (X : K.In h) (G : h.Ns mainGlobals mg) (e : errOk K = true) {x y : Str} {C : Addr} (hx : wd x = some y) (g : mg x = some (.ref C)) : ExcC K C ∧ PySem.W.exmOne K (.ref C) (.ref (He.ga K "CordError")) = some true := by
  have m : (x, y) ∈ errWords := PySem.mem_of_lookup hx
  have q := List.all_eq_true.mp e _ m
  simp only [Bool.and_eq_true] at q
  have z := He.glo_ok X G q.1
  rw [g] at z
  cases z
  exact ⟨excCB_ok q.2.1, of_decide_eq_true q.2.2⟩
/-- what is asked of the tables: ds the defs that make lambdas -/
def tabOk (K : PySem.W.Frag) (ds : List Str) : Bool := ((tabsOf K).all fun p => (tabsOf K).all fun r => !(decide (r.1 = p.1)) || decide (r.2 = p.2)) && (((tabsOf K).all fun p => ds.any fun d => decide (p.1 = (He.cT K (d, none)).2)) && ds.all fun d => decide (((He.cT K (d, none)).2, d ++ ".<locals>.<lambda>") ∈ tabsOf K))
theorem tabOk_u {ds : List Str} (e : tabOk K ds = true) : ∀ p ∈ tabsOf K, ∀ r ∈ tabsOf K, r.1 = p.1 → r.2 = p.2 := fun p hp r hr q => by
  unfold tabOk at e
  simp only [Bool.and_eq_true] at e
  have z := List.all_eq_true.mp (List.all_eq_true.mp e.1 p hp) r hr
  rw [decide_eq_true q] at z
  exact of_decide_eq_true (by simpa using z)
theorem tabOk_in {ds : List Str} (e : tabOk K ds = true) {d : Str} (hd : d ∈ ds) : ((He.cT K (d, none)).2, d ++ ".<locals>.<lambda>") ∈ tabsOf K := by
  unfold tabOk at e
  simp only [Bool.and_eq_true] at e
  exact of_decide_eq_true (List.all_eq_true.mp e.2.2 d hd)
theorem tabOk_all {ds : List Str} (e : tabOk K ds = true) : ∀ p ∈ tabsOf K, ∃ d ∈ ds, p.1 = (He.cT K (d, none)).2 := fun p hp => by
  unfold tabOk at e
  simp only [Bool.and_eq_true] at e
  obtain ⟨d, h1, h2⟩ := List.any_eq_true.mp (List.all_eq_true.mp e.2.1 p hp)
  exact ⟨d, h1, of_decide_eq_true h2⟩
/-- the law's call -/
theorem law_start {g : Fn} {H : Hp} {a : Addr} {ns : List Int} (hT : ∀ p ∈ tabsOf K, H p.1 = some (.tbl #[])) (hS : SqL K H a (ns.map V.int)) (hg : ∃ ρ', g [.dat (.scr ns)] = .ok (.dat (.bl true)) ρ') :
    spOf K mg g [.ref a] H (fun v _ => v = .bl true) fun _ _ _ => False := by
  have key : ∃ F : Hp, Same F H ∧ (∀ b o, F b = some o → NT o) ∧ SqL K F a (ns.map V.int) := by
    rcases hS with (z | ⟨o, z⟩) | z
    · refine ⟨fun b => if b = a then H a else none, fun b o e => ?_, fun b o e => ?_, .inl (.inl (show (if a = a then H a else none) = _ from (if_pos rfl).trans z))⟩
      · by_cases hb : b = a
        · subst hb; simpa using e
        · simp [hb] at e
      · by_cases hb : b = a
        · subst hb
          simp only [if_true] at e
          rw [z] at e; cases e
          intro ps q; cases q
        · simp [hb] at e
    · refine ⟨fun b => if b = a then H a else none, fun b o e => ?_, fun b o e => ?_, .inl (.inr ⟨o, (if_pos rfl : (if a = a then H a else none) = H a).trans z⟩)⟩
      · by_cases hb : b = a
        · subst hb; simpa using e
        · simp [hb] at e
      · by_cases hb : b = a
        · subst hb
          simp only [if_true] at e
          rw [z] at e; cases e
          intro ps q; cases q
        · simp [hb] at e
    · exact ⟨fun _ => none, fun b o e => (nomatch e), fun b o e => (nomatch e), .inr z⟩
  obtain ⟨F, h1, h2, h3⟩ := key
  obtain ⟨ρ', hg⟩ := hg
  refine ⟨F, [.dat (.scr ns)], ⟨rfl, h1, fun p hp => TabS.nil (hT p hp), h2, fun i d e => ?_, fun i p m e => ?_, fun i j _ p q m n e _ _ _ => ?_⟩, fun i m e => ?_, ?_⟩
  · cases i with
    | zero => cases e; exact ⟨_, rfl, by unfold Rp; exact ⟨a, rfl, h3⟩⟩
    | succ i => simp at e
  · cases i with
    | zero => cases e
    | succ i => simp at e
  · cases i with
    | zero => cases e
    | succ i => simp at e
  · cases i with
    | zero => cases e
    | succ i => simp at e
  · rw [hg]
    intro F' H' v _ w
    have w : Rp K F' (.bl true) v := w
    unfold Rp at w
    exact w
end
end Cd

set_option Elab.async false
set_option linter.all false
set_option autoImplicit false
set_option maxRecDepth 100000
set_option maxHeartbeats 1000000
/-! Core15: evaluating printed functions. -/
namespace Cd
open PySem PySem.Spec L2 L2H LamX
theorem isE_eval {t : V → Option Bool} {a : Addr} {c : V} {b : Bool} {r : Rho} (h : t c = some b) : eCB (excD t a) (aCons (eVar 0) (aCons (eC (.cst c)) aNil)) (.dat (.cst (.ref a)) :: r) = .ok (.bl b) (.dat (.cst (.ref a)) :: r) := by
  have e : excD t a [.cst (.ref a), .cst c] = some (.bl b) := by
    unfold excD
    dsimp only
    rw [if_pos rfl, h]
    rfl
  show SM.opt (excD t a [.cst (.ref a), .cst c]) (Val.dat (.cst (.ref a)) :: r) = _
  rw [e]
  rfl
theorem aCons_eval {m : SM D} {n : SM (List D)} {ρ ρ1 ρ2 : Rho} {d : D} {ds : List D} (h1 : m ρ = .ok d ρ1) (h2 : n ρ1 = .ok ds ρ2) : aCons m n ρ = .ok (d :: ds) ρ2 := by
  unfold aCons SM.bind
  rw [h1]
  dsimp only
  rw [h2]
  rfl
theorem aNil_eval {ρ : Rho} : aNil ρ = .ok [] ρ := rfl
theorem kitOk_ref {K : PySem.W.Frag} (e : kitOk K = true) {x y : Str} (hx : x ∈ errWords.map (·.1)) (hy : y ∈ errNames) : tK K (He.ga K x) (.ref (He.ga K y)) = some (decide (x = y)) := by
  have q := List.all_eq_true.mp e x hx
  simp only [Bool.and_eq_true] at q
  exact of_decide_eq_true (List.all_eq_true.mp q.1 y hy)
theorem kitOk_ve {K : PySem.W.Frag} (e : kitOk K = true) {x : Str} (hx : x ∈ errWords.map (·.1)) : tK K (He.ga K x) (.ty "ValueError") = some true := by
  have q := List.all_eq_true.mp e x hx
  simp only [Bool.and_eq_true] at q
  exact of_decide_eq_true q.2
theorem set_eval {i : Nat} {m : SM (List D)} {ρ ρ1 ρ2 : Rho} {ds : List D} (h1 : m ρ = .ok ds ρ1) (hl : ds.length ≤ sizeLine) (hp : put i (.dat (.lst ds)) ρ1 = some ρ2) : sSet i (vDat (eLst m)) ρ = .ok .nx ρ2 := by
  unfold sSet vDat eLst SM.bind
  rw [h1]
  dsimp only
  rw [show lim ds.length (D.lst ds) = some (.lst ds) from if_pos hl]
  show (match put i (.dat (.lst ds)) ρ1 with
    | some ρ' => Res.ok Flw.nx ρ'
    | none => .bad) = _
  rw [hp]
theorem seq_eval {m n : SM Flw} {ρ ρ1 : Rho} (h : m ρ = .ok .nx ρ1) : sSeq m n ρ = n ρ1 := by
  unfold sSeq
  rw [h]
def okStr (r : Res Flw) (y : Str) : Bool := match r with
  | .ok (.ret (.dat (.str z))) _ => decide (z = y)
  | _ => false
theorem okStr_ok {r : Res Flw} {y : Str} (h : okStr r y = true) : ∃ ρ', r = .ok (.ret (.dat (.str y))) ρ' := by
  unfold okStr at h
  split at h
  · rename_i z ρ'
    rw [of_decide_eq_true h]
    exact ⟨ρ', rfl⟩
  · cases h
/-! ### loops -/
/-- no object of the caller's -/
def Val.free (v : Val) : Prop := ∀ m, v ≠ .own true m
theorem Val.free_dat {d : D} : (Val.dat d).free := fun m h => by cases h
theorem Val.free_un : Val.un.free := fun m h => by cases h
theorem put_free {i : Nat} {r v : Val} {ρ : Rho} (h : ρ[i]? = some v) (hv : v.free) : put i r ρ = some (ρ.set i r) := by
  unfold put
  rw [h]
  cases v with
  | un => rfl
  | dat d => rfl
  | own p m =>
    cases p with
    | true => exact absurd rfl (hv m)
    | false => rfl
theorem loop_rel {T : Tg} {mb : SM Flw} {σ α : Type} (R : σ → Val → Rho) (dn : α → D) (I : List α → σ → Prop) (hT : ∀ s v d, v.free → T d (R s v) = some (R s (.dat d)))
    (hb : ∀ a l s, I (a :: l) s → ∃ s', mb (R s (.dat (dn a))) = .ok .nx (R s' (.dat (dn a))) ∧ I l s') : ∀ l s v, v.free → I l s → ∃ s' v', loopF T mb (l.map dn) (R s v) = .ok .nx (R s' v') ∧ v'.free ∧ I [] s'
  | [], s, v, hv, h => ⟨s, v, rfl, hv, h⟩
  | a :: l, s, v, hv, h => by
    obtain ⟨s1, e1, h1⟩ := hb a l s h
    obtain ⟨s2, v2, e2, h2⟩ := loop_rel R dn I hT hb l s1 (.dat (dn a)) Val.free_dat h1
    refine ⟨s2, v2, ?_, h2⟩
    rw [List.map_cons, loopF, hT s v _ hv]
    dsimp only
    rw [e1]
    exact e2
theorem D.eqv_refl_pys (ds : List D) : D.eqv (.lst ds) (.lst ds) = D.eqv (.tup ds) (.tup ds) := by
  unfold D.eqv D.py
  rfl
mutual
/-- data that equals itself -/
theorem D.eqv_self : ∀ d : D, d.pl = true → D.eqv d d = true
  | .non, _ => by unfold D.eqv D.py; rfl
  | .bl b, _ => by unfold D.eqv D.py; simp [PyData.eqv]
  | .int i, _ => by unfold D.eqv D.py; simp [PyData.eqv]
  | .str x, _ => by unfold D.eqv D.py; simp [PyData.eqv]
  | .lst ds, h => by unfold D.eqv D.py; unfold D.pl at h; simpa [PyData.eqv] using D.eqvs_self ds h
  | .tup ds, h => by unfold D.eqv D.py; unfold D.pl at h; simpa [PyData.eqv] using D.eqvs_self ds h
  | .dic _ _, h => by unfold D.pl at h; cases h
  | .cst _, h => by unfold D.pl at h; cases h
  | .scr _, h => by unfold D.pl at h; cases h
theorem D.eqvs_self : ∀ ds : List D, D.pls ds = true → PyData.eqvAll (D.pys ds) (D.pys ds) = true
  | [], _ => by unfold D.pys; simp [PyData.eqvAll]
  | d :: ds, h => by
    unfold D.pls at h
    rw [Bool.and_eq_true] at h
    unfold D.pys
    have h1 := D.eqv_self d h.1
    unfold D.eqv at h1
    simp only [PyData.eqvAll, h1, D.eqvs_self ds h.2, Bool.and_self]
end
/-! ### a run -/
theorem fn_ret {n N : Nat} {m : SM Flw} {args ρ' : Rho} {r : Val} (h : m (args ++ blank (N - n)) = .ok (.ret r) ρ') (hl : args.length = n := by rfl) : runFn n N m args = .ok r (seen args ρ') := by
  unfold runFn
  rw [if_pos hl, h]
theorem fn_nx {n N : Nat} {m : SM Flw} {args ρ' : Rho} (h : m (args ++ blank (N - n)) = .ok .nx ρ') (hl : args.length = n := by rfl) : runFn n N m args = .ok (.dat .non) (seen args ρ') := by
  unfold runFn
  rw [if_pos hl, h]
theorem fn_exc {n N : Nat} {m : SM Flw} {args ρ' : Rho} {x : Exn} (h : m (args ++ blank (N - n)) = .exc x ρ') (hl : args.length = n := by rfl) : runFn n N m args = .exc x (seen args ρ') := by
  unfold runFn
  rw [if_pos hl, h]
/-! ### steps -/
section
variable {α β : Type} {m n : SM Flw} {ρ ρ1 ρ2 : Rho} {r : Res Flw} {T : Tg} {mb : SM Flw} {mi : SM (List D)} {ds : List D} {mv : SM Val} {v : Val} {i : Nat} {t : SM Bool} {b : Bool}
theorem seq_to (h1 : m ρ = .ok .nx ρ1) (h2 : n ρ1 = r) : sSeq m n ρ = r := (seq_eval h1).trans h2
theorem seq_ret (h : m ρ = .ok (.ret v) ρ1) : sSeq m n ρ = .ok (.ret v) ρ1 := by unfold sSeq; rw [h]
theorem seq_exc {x : Exn} (h : m ρ = .exc x ρ1) : sSeq m n ρ = .exc x ρ1 := by unfold sSeq; rw [h]
theorem for_to (h1 : mi ρ = .ok ds ρ1) (h2 : loopF T mb ds ρ1 = r) : sFor mi T mb ρ = r := by unfold sFor SM.bind; rw [h1]; exact h2
theorem if_to (h1 : t ρ = .ok b ρ1) (h2 : (if b = true then m else n) ρ1 = r) : sIf t m n ρ = r := by unfold sIf SM.bind; rw [h1]; exact h2
theorem if_t (h1 : t ρ = .ok true ρ1) (h2 : m ρ1 = r) : sIf t m n ρ = r := if_to h1 h2
theorem if_f (h1 : t ρ = .ok false ρ1) (h2 : n ρ1 = r) : sIf t m n ρ = r := if_to h1 h2
theorem ret_to (h : mv ρ = .ok v ρ1) : sRet mv ρ = .ok (.ret v) ρ1 := by unfold sRet SM.bind; rw [h]; rfl
theorem set_to (h : mv ρ = .ok v ρ1) (hp : put i v ρ1 = some ρ2) : sSet i mv ρ = .ok .nx ρ2 := by unfold sSet SM.bind; rw [h]; dsimp only; rw [hp]
theorem dat_to {m : SM D} {d : D} (h : m ρ = .ok d ρ1) : vDat m ρ = .ok (.dat d) ρ1 := by unfold vDat SM.bind; rw [h]; rfl
theorem frz_to {m : SM Val} {d : D} (h : m ρ = .ok (.dat d) ρ1) : eFrz m ρ = .ok d ρ1 := by unfold eFrz SM.bind; rw [h]; rfl
theorem bin_to {f : D → D → Option D} {a b : SM D} {x y z : D} (h1 : a ρ = .ok x ρ1) (h2 : b ρ1 = .ok y ρ2) (h3 : f x y = some z) : eBin f a b ρ = .ok z ρ2 := by unfold eBin SM.bind; rw [h1]; dsimp only; rw [h2]; dsimp only; rw [h3]; rfl
theorem bOf_to {m : SM D} {b : Bool} (h : m ρ = .ok (.bl b) ρ1) : bOf m ρ = .ok b ρ1 := by unfold bOf SM.bind; rw [h]; rfl
theorem call1_to {f : Fn} {m : SM D} {d : D} {w : Val} (h : m ρ = .ok d ρ1) (h2 : f [.dat d] = .ok w [.dat d]) : eCall f (gD m gNilA) ρ = .ok w ρ1 := by
  unfold eCall gD SM.bind
  rw [h]
  show (match f [.dat d] with
    | .ok r ρc' => Res.ok r (outArgs ρ1 [.d d] ρc')
    | .exc x ρc' => .exc x (outArgs ρ1 [.d d] ρc')
    | .bad => .bad) = _
  rw [h2]
  rfl
theorem bind_to {m : SM α} {k : α → SM β} {a : α} {r : Res β} (h : m ρ = .ok a ρ1) (h2 : k a ρ1 = r) : SM.bind m k ρ = r := by unfold SM.bind; rw [h]; exact h2
end
section
variable {ρ ρ1 ρ2 : Rho} {d : D}
theorem gD_to {m : SM D} {n : SM (List Arg)} {as : List Arg} (h1 : m ρ = .ok d ρ1) (h2 : n ρ1 = .ok as ρ2) : gD m n ρ = .ok (.d d :: as) ρ2 := by unfold gD SM.bind; rw [h1]; dsimp only; rw [h2]; rfl
theorem call_to {f : Fn} {ms : SM (List Arg)} {as : List Arg} {ρc ρc' : Rho} {w : Val} (h : ms ρ = .ok as ρ1) (hi : inArgs ρ1 as = some ρc) (hf : f ρc = .ok w ρc') (nd : (ownIx as).Nodup := by first | exact List.nodup_nil | exact List.nodup_cons.mpr ⟨List.not_mem_nil, List.nodup_nil⟩ | decide) : eCall f ms ρ = .ok w (outArgs ρ1 as ρc') := by
  unfold eCall SM.bind
  rw [h]
  dsimp only
  rw [if_pos nd, hi]
  dsimp only
  rw [hf]
theorem call_exc {f : Fn} {ms : SM (List Arg)} {as : List Arg} {ρc ρc' : Rho} {x : Exn} (h : ms ρ = .ok as ρ1) (hi : inArgs ρ1 as = some ρc) (hf : f ρc = .exc x ρc') (nd : (ownIx as).Nodup := by first | exact List.nodup_nil | exact List.nodup_cons.mpr ⟨List.not_mem_nil, List.nodup_nil⟩ | decide) : eCall f ms ρ = .exc x (outArgs ρ1 as ρc') := by
  unfold eCall SM.bind
  rw [h]
  dsimp only
  rw [if_pos nd, hi]
  dsimp only
  rw [hf]
theorem tup_to {ms : SM (List D)} {ds : List D} (h : ms ρ = .ok ds ρ1) (hl : ds.length ≤ sizeLine := by exact Nat.le_of_ble_eq_true rfl) : eTup ms ρ = .ok (.tup ds) ρ1 := by
  unfold eTup SM.bind
  rw [h]
  dsimp only
  rw [show lim ds.length (D.tup ds) = some (.tup ds) from if_pos hl]
  rfl
theorem cb_to {f : List D → Option D} {ms : SM (List D)} {ds : List D} {c : D} (h : ms ρ = .ok ds ρ1) (hf : f ds = some c) : eCB f ms ρ = .ok c ρ1 := by
  unfold eCB SM.bind
  rw [h]
  dsimp only
  rw [hf]
  rfl
theorem and_t {t u : SM Bool} {r : Res Bool} (h1 : t ρ = .ok true ρ1) (h2 : u ρ1 = r) : bAnd t u ρ = r := by unfold bAnd SM.bind; rw [h1]; exact h2
theorem and_f {t u : SM Bool} (h1 : t ρ = .ok false ρ1) : bAnd t u ρ = .ok false ρ1 := by unfold bAnd SM.bind; rw [h1]; rfl
theorem or_f {t u : SM Bool} {r : Res Bool} (h1 : t ρ = .ok false ρ1) (h2 : u ρ1 = r) : bOr t u ρ = r := by unfold bOr SM.bind; rw [h1]; exact h2
theorem or_t {t u : SM Bool} (h1 : t ρ = .ok true ρ1) : bOr t u ρ = .ok true ρ1 := by unfold bOr SM.bind; rw [h1]; rfl
theorem not_to {t : SM Bool} {b : Bool} (h : t ρ = .ok b ρ1) : bNot t ρ = .ok (!b) ρ1 := by unfold bNot SM.bind; rw [h]; rfl
theorem not_t {t : SM Bool} (h : t ρ = .ok true ρ1) : bNot t ρ = .ok false ρ1 := not_to h
theorem not_f {t : SM Bool} (h : t ρ = .ok false ρ1) : bNot t ρ = .ok true ρ1 := not_to h
theorem eAnd_t {m n : SM D} {r : Res D} (h1 : m ρ = .ok (.bl true) ρ1) (h2 : n ρ1 = r) : eAnd m n ρ = r := by unfold eAnd; exact bind_to (bOf_to h1) h2
theorem eAnd_f {m n : SM D} (h1 : m ρ = .ok (.bl false) ρ1) : eAnd m n ρ = .ok (.bl false) ρ1 := by unfold eAnd; exact bind_to (bOf_to h1) rfl
theorem eIf_t {t : SM Bool} {m n : SM D} {r : Res D} (h1 : t ρ = .ok true ρ1) (h2 : m ρ1 = r) : eIf t m n ρ = r := bind_to h1 h2
theorem eIf_f {t : SM Bool} {m n : SM D} {r : Res D} (h1 : t ρ = .ok false ρ1) (h2 : n ρ1 = r) : eIf t m n ρ = r := bind_to h1 h2
end
theorem int_pl (i : Int) : (D.int i).pl = true := by unfold D.pl; rfl
theorem int_dep (i : Int) : (D.int i).py.depth = 0 := by unfold D.py; simp [PyData.depth]
theorem eqD_int (i j : Int) : eqD (.int i) (.int j) = some (.bl (decide (i = j))) := by
  unfold eqD
  rw [if_pos ⟨int_pl i, int_pl j, by rw [int_dep]; exact Nat.le_trans (Nat.min_le_left _ _) (Nat.zero_le _)⟩]
  unfold D.eqv D.py
  simp only [PyData.eqv]
  by_cases h : i = j <;> simp [h]
theorem neD_int (i j : Int) : neD (.int i) (.int j) = some (.bl (!decide (i = j))) := by
  unfold neD
  rw [if_pos ⟨int_pl i, int_pl j, by rw [int_dep]; exact Nat.le_trans (Nat.min_le_left _ _) (Nat.zero_le _)⟩]
  unfold D.eqv D.py
  simp only [PyData.eqv]
  by_cases h : i = j <;> simp [h]
theorem neD_self {d : D} (h : d.pl = true) (hd : d.py.depth ≤ 64) : neD d d = some (.bl false) := by
  unfold neD
  rw [if_pos ⟨h, h, Nat.le_trans (Nat.min_le_left _ _) hd⟩, D.eqv_self d h]
  rfl
theorem addT {a b : List D} (h : a.length + b.length ≤ 1000) : addD (.tup a) (.tup b) = some (.tup (a ++ b)) := if_pos (Nat.le_trans h (by decide))
theorem addI {a b : Int} : addD (.int a) (.int b) = some (.int (a + b)) := rfl
theorem subI {a b : Int} : subD (.int a) (.int b) = some (.int (a - b)) := rfl
theorem loopC_none {T : Tg} {mt : SM Bool} {me : SM D} {vs : List Nat} {ρ : Rho} {acc : List D} : ∀ (ds : List D), (∀ d ∈ ds, ∃ ρ1 ρ2, T d ρ = some ρ1 ∧ mt ρ1 = .ok false ρ2 ∧ okW ρ2 vs = true ∧ wipeR ρ2 vs = ρ) → loopC T mt me vs ds acc ρ = .ok acc ρ
  | [], _ => rfl
  | d :: r, h => by
    obtain ⟨ρ1, ρ2, h1, h2, h3, h4⟩ := h d List.mem_cons_self
    rw [loopC, h1]
    dsimp only
    rw [h2]
    dsimp only
    rw [if_pos h3, h4]
    exact loopC_none r fun x hx => h x (List.mem_cons_of_mem _ hx)
theorem lc_to {vs : List Nat} {mi : SM (List D)} {T : Tg} {mt : SM Bool} {me : SM D} {ρ ρ1 ρ2 : Rho} {ds acc : List D} (h1 : mi ρ = .ok ds ρ1) (ok : okW ρ1 vs = true) (h2 : loopC T mt me vs ds [] (wipeR ρ1 vs) = .ok acc ρ2) (ok2 : okW ρ2 vs = true) : eLc vs mi T mt me ρ = .ok (.own false (.lst acc)) (backR ρ2 ρ1 vs) := by
  unfold eLc SM.bind
  rw [h1]
  dsimp only
  unfold lcEnd
  rw [if_pos ok, h2]
  dsimp only
  rw [if_pos ok2]
theorem frzO_to {m : SM Val} {mo : MO} {ρ ρ1 : Rho} (h : m ρ = .ok (.own false mo) ρ1) : eFrz m ρ = .ok mo.frz ρ1 := by unfold eFrz SM.bind; rw [h]; rfl
def okBl (r : Res Val) (b : Bool) : Bool := match r with
  | .ok (.dat (.bl c)) _ => c == b
  | _ => false
theorem nil_eq : eqD (.lst []) (.lst []) = some (.bl true) := by kernel_rfl
theorem drop_to {m : SM Val} {v : Val} {ρ ρ1 : Rho} (h : m ρ = .ok v ρ1) : sDrop m ρ = .ok .nx ρ1 := by unfold sDrop SM.bind; rw [h]; rfl
theorem drop_exc {m : SM Val} {x : Exn} {ρ ρ1 : Rho} (h : m ρ = .exc x ρ1) : sDrop m ρ = .exc x ρ1 := by unfold sDrop SM.bind; rw [h]
theorem chain_t {f g : D → D → Option D} {m n l : SM D} {ρ ρ1 ρ2 ρ3 : Rho} {a b c d : D} (h1 : m ρ = .ok a ρ1) (h2 : n ρ1 = .ok b ρ2) (h3 : f a b = some (.bl true)) (h4 : l ρ2 = .ok c ρ3) (h5 : g b c = some d) : eChain f g m n l ρ = .ok d ρ3 := by
  unfold eChain
  refine bind_to h1 (bind_to h2 (bind_to (a := .bl true) (by rw [h3]; rfl) ?_))
  exact bind_to h4 (by rw [h5]; rfl)
theorem chain_f {f g : D → D → Option D} {m n l : SM D} {ρ ρ1 ρ2 : Rho} {a b : D} (h1 : m ρ = .ok a ρ1) (h2 : n ρ1 = .ok b ρ2) (h3 : f a b = some (.bl false)) : eChain f g m n l ρ = .ok (.bl false) ρ2 := by
  unfold eChain
  exact bind_to h1 (bind_to h2 (bind_to (a := .bl false) (by rw [h3]; rfl) rfl))
theorem eNot_f {m : SM D} {ρ ρ1 : Rho} (h : m ρ = .ok (.bl false) ρ1) : eNot m ρ = .ok (.bl true) ρ1 := by unfold eNot dOf; exact bind_to (not_f (bOf_to h)) rfl
theorem eNot_t {m : SM D} {ρ ρ1 : Rho} (h : m ρ = .ok (.bl true) ρ1) : eNot m ρ = .ok (.bl false) ρ1 := by unfold eNot dOf; exact bind_to (not_t (bOf_to h)) rfl
theorem isi_of {d : D} {t n : String} {b : Bool} (h : d.ty = some t) (hb : kitB t n = some b) : isiF [d, .cst (.ty n)] = some (.bl b) := by
  show d.ty.bind (fun t => (kitB t n).map D.bl) = _
  rw [h]
  show (kitB t n).map D.bl = _
  rw [hb]
  rfl
theorem le_t {a b : Int} (h : a ≤ b) : leD (.int a) (.int b) = some (.bl true) := show some (D.bl (decide (a ≤ b))) = _ by rw [decide_eq_true h]
theorem le_f {a b : Int} (h : ¬ a ≤ b) : leD (.int a) (.int b) = some (.bl false) := show some (D.bl (decide (a ≤ b))) = _ by rw [decide_eq_false h]
theorem lt_t {a b : Int} (h : a < b) : ltD (.int a) (.int b) = some (.bl true) := show some (D.bl (decide (a < b))) = _ by rw [decide_eq_true h]
theorem lt_f {a b : Int} (h : ¬ a < b) : ltD (.int a) (.int b) = some (.bl false) := show some (D.bl (decide (a < b))) = _ by rw [decide_eq_false h]
theorem gt_t {a b : Int} (h : a > b) : gtD (.int a) (.int b) = some (.bl true) := show some (D.bl (decide (a > b))) = _ by rw [decide_eq_true h]
theorem gt_f {a b : Int} (h : ¬ a > b) : gtD (.int a) (.int b) = some (.bl false) := show some (D.bl (decide (a > b))) = _ by rw [decide_eq_false h]
theorem eq_t {a b : Int} (h : a = b) : eqD (.int a) (.int b) = some (.bl true) := by rw [eqD_int, decide_eq_true h]
theorem eq_f {a b : Int} (h : a ≠ b) : eqD (.int a) (.int b) = some (.bl false) := by rw [eqD_int, decide_eq_false h]
/-- the exception that is told -/
theorem err_exc {wd : Str → Option Str} {m : SM D} {ρ ρ1 : Rho} {x y : Str} (h : m ρ = .exc ⟨x, none⟩ ρ1) (hw : wd x = some y) : eErr wd m ρ = .ok (.str y) ρ1 := by
  unfold eErr
  rw [h]
  dsimp only
  rw [hw]
theorem frz_exc {m : SM Val} {x : Exn} {ρ ρ1 : Rho} (h : m ρ = .exc x ρ1) : eFrz m ρ = .exc x ρ1 := by unfold eFrz SM.bind; rw [h]
theorem mod_to {i j : Int} (h : j ≠ 0) : modD (.int i) (.int j) = some (.int (i.fmod j)) := by
  show (if decide (j ≠ 0) = true then some (D.int (i.fmod j)) else none) = _
  rw [if_pos (decide_eq_true h)]
theorem fdiv_to {i j : Int} (h : j ≠ 0) (h2 : j.natAbs < 1073741824) : fdivD (.int i) (.int j) = some (.int (i.fdiv j)) := by
  show (if fdivC i j = true then some (D.int (i.fdiv j)) else none) = _
  rw [if_pos]
  unfold fdivC
  rw [decide_eq_true ⟨h, h2⟩]
  rfl
theorem mul_r {i j : Int} (h : j.natAbs < 2 ^ 64) : mulD (.int i) (.int j) = some (.int (i * j)) := by
  show (if mulC i j = true then some (D.int (i * j)) else none) = _
  rw [if_pos]
  unfold mulC
  rw [decide_eq_true h, Bool.or_true, Bool.true_or]
theorem mul_l {i j : Int} (h : i.natAbs < 2 ^ 64) : mulD (.int i) (.int j) = some (.int (i * j)) := by
  show (if mulC i j = true then some (D.int (i * j)) else none) = _
  rw [if_pos]
  unfold mulC
  rw [decide_eq_true h, Bool.true_or, Bool.true_or]
theorem atI_lt {α : Type} {xs : List α} {i : Int} (h0 : 0 ≤ i) (h : i < xs.length) : ∃ x ∈ xs, atI xs i = some x := by
  obtain ⟨n, rfl⟩ := Int.eq_ofNat_of_zero_le h0
  have hn : n < xs.length := by omega
  refine ⟨xs[n], List.getElem_mem hn, ?_⟩
  rw [atI_nat]
  exact List.getElem?_eq_getElem hn
/-- the law's pair of numbers, the caller's -/
abbrev VT (a b : Int) : Val := .own true (.lst [.int a, .int b])
theorem while_rel {t : SM Bool} {mb : SM Flw} {σ : Type} (R : σ → Rho) (I : Nat → σ → Prop) (P : σ → Prop) (h : ∀ n s, I n s → (t (R s) = .ok false (R s) ∧ P s) ∨ (t (R s) = .ok true (R s) ∧ ∃ s', mb (R s) = .ok .nx (R s') ∧ ∃ m, m < n ∧ I m s')) :
    ∀ fuel n s, I n s → n < fuel → ∃ s', whileN t mb fuel (R s) = .ok .nx (R s') ∧ P s'
  | 0, n, s, _, hf => absurd hf (Nat.not_lt_zero n)
  | fuel + 1, n, s, hI, hf => by
    rcases h n s hI with ⟨e, p⟩ | ⟨e, s1, e1, m, hm, h1⟩
    · exact ⟨s, by rw [whileN, e], p⟩
    · obtain ⟨s2, e2, p2⟩ := while_rel R I P h fuel m s1 h1 (by omega)
      exact ⟨s2, by rw [whileN, e]; dsimp only; rw [e1]; exact e2, p2⟩
theorem asg_to {m : SM D} {T : Tg} {ρ ρ1 ρ2 : Rho} {d : D} (h : m ρ = .ok d ρ1) (hT : T d ρ1 = some ρ2) : sAsg m T ρ = .ok .nx ρ2 := by
  unfold sAsg SM.bind
  rw [h]
  dsimp only
  rw [hT]
theorem pair_to {i j : Nat} {x y : D} {ρ ρ1 ρ2 : Rho} (h1 : put i (.dat x) ρ = some ρ1) (h2 : put j (.dat y) ρ1 = some ρ2) : gTp 2 (gCons (gNm i) (gCons (gNm j) gNil)) (.tup [x, y]) ρ = some ρ2 := by
  show (if ([x, y] : List D).length = 2 then gCons (gNm i) (gCons (gNm j) gNil) [x, y] ρ else none) = _
  rw [if_pos (show ([x, y] : List D).length = 2 from rfl)]
  show (put i (.dat x) ρ).bind (fun ρ => (put j (.dat y) ρ).bind (gNil [])) = _
  rw [h1]
  show (put j (.dat y) ρ1).bind (gNil []) = _
  rw [h2]
  rfl
theorem lst_to {ms : SM (List D)} {ds : List D} {ρ ρ1 : Rho} (h : ms ρ = .ok ds ρ1) (hl : ds.length ≤ sizeLine := by exact Nat.le_of_ble_eq_true rfl) : eLst ms ρ = .ok (.lst ds) ρ1 := by
  unfold eLst SM.bind
  rw [h]
  dsimp only
  rw [show lim ds.length (D.lst ds) = some (.lst ds) from if_pos hl]
  rfl
theorem gO_to {i : Nat} {n : SM (List Arg)} {as : List Arg} {p : Bool} {mo : MO} {ρ ρ1 : Rho} (h0 : ρ[i]? = some (Val.own p mo)) (h : n ρ = .ok as ρ1) : gO i n ρ = .ok (.o i :: as) ρ1 := by
  unfold gO
  rw [h0]
  exact bind_to h rfl
end Cd

set_option Elab.async false
set_option linter.all false
set_option autoImplicit false
set_option maxRecDepth 100000
set_option maxHeartbeats 1000000
/-! Core16: scripts as data. -/
namespace Cd
open PySem PySem.Spec L2
/-- the pairs of places, the plain statements, the tests -/
def pairsL : List (Str × Str) := [("a", "b"), ("a", "c"), ("b", "a"), ("b", "c"), ("c", "a"), ("c", "b")]
def plainsL : List D := ((["copy", "tie", "cut"] : List Str).flatMap fun w => pairsL.map fun p => .tup [.str w, .str p.1, .str p.2]) ++ (["a", "b", "c"] : List Str).flatMap fun p => ([2, 3] : List Int).map fun i => .tup [.str "fold", .str p, .int i]
def testsL : List D := (["longer", "same"] : List Str).flatMap fun w => pairsL.map fun p => .tup [.str w, .str p.1, .str p.2]
inductive Stm where
  | pl (s : D) | cd (t : D) (a b : List Stm)
mutual
def Stm.d : Stm → D
  | .pl s => s
  | .cd t a b => .tup [.str "if", t, .tup (Stm.ds a), .tup (Stm.ds b)]
def Stm.ds : List Stm → List D
  | [] => []
  | s :: r => s.d :: Stm.ds r
end
theorem Stm.ds_map : ∀ l : List Stm, Stm.ds l = l.map Stm.d
  | [] => rfl
  | s :: r => by unfold Stm.ds; rw [Stm.ds_map r]; rfl
theorem Stm.ds_len (l : List Stm) : (Stm.ds l).length = l.length := by rw [Stm.ds_map, List.length_map]
theorem Stm.ds_app (l m : List Stm) : Stm.ds (l ++ m) = Stm.ds l ++ Stm.ds m := by rw [Stm.ds_map, Stm.ds_map, Stm.ds_map, List.map_append]
abbrev bD (l : List Stm) : D := .tup (Stm.ds l)
mutual
def Stm.sz : Stm → Nat
  | .pl _ => 1
  | .cd _ a b => 1 + Stm.szs a + Stm.szs b
def Stm.szs : List Stm → Nat
  | [] => 0
  | s :: r => s.sz + Stm.szs r
end
theorem Stm.szs_cons (s : Stm) (r : List Stm) : Stm.szs (s :: r) = s.sz + Stm.szs r := by rw [Stm.szs]
theorem Stm.szs_app : ∀ l m : List Stm, Stm.szs (l ++ m) = Stm.szs l + Stm.szs m
  | [], m => by simp [Stm.szs]
  | s :: r, m => by
    show Stm.szs (s :: (r ++ m)) = _
    rw [Stm.szs_cons, Stm.szs_cons, Stm.szs_app r m]; omega
theorem Stm.sz_pos : ∀ s : Stm, 1 ≤ s.sz
  | .pl _ => by unfold Stm.sz; exact Nat.le_refl _
  | .cd _ a b => by unfold Stm.sz; omega
theorem Stm.len_szs : ∀ l : List Stm, l.length ≤ Stm.szs l
  | [] => Nat.zero_le _
  | s :: r => by
    unfold Stm.szs
    have := Stm.len_szs r
    have := s.sz_pos
    rw [List.length_cons]; omega
mutual
/-- within n levels -/
def Stm.ok (n : Nat) : Stm → Prop
  | .pl s => s ∈ plainsL ∧ 1 ≤ n
  | .cd t a b => t ∈ testsL ∧ 1 ≤ n ∧ a.length ≤ 8 ∧ b.length ≤ 8 ∧ Stm.oks (n - 1) a ∧ Stm.oks (n - 1) b
def Stm.oks (n : Nat) : List Stm → Prop
  | [] => True
  | s :: r => s.ok n ∧ Stm.oks n r
end
theorem Stm.oks_cons {n : Nat} (s : Stm) (r : List Stm) : Stm.oks n (s :: r) ↔ s.ok n ∧ Stm.oks n r := by rw [Stm.oks]
theorem Stm.oks_app {n : Nat} : ∀ {l m : List Stm}, Stm.oks n (l ++ m) ↔ Stm.oks n l ∧ Stm.oks n m
  | [], m => by simp [Stm.oks]
  | s :: r, m => by
    show Stm.oks n (s :: (r ++ m)) ↔ _
    rw [Stm.oks_cons, Stm.oks_cons, Stm.oks_app (l := r)]
    exact and_assoc.symm
theorem Stm.oks_mem {n : Nat} : ∀ {l : List Stm}, Stm.oks n l → ∀ s ∈ l, s.ok n
  | [], _, s, h => nomatch h
  | t :: r, h, s, hs => by
    unfold Stm.oks at h
    rcases List.mem_cons.mp hs with e | e
    · rw [e]; exact h.1
    · exact Stm.oks_mem h.2 s e
/-- a plain statement's parts -/
theorem plain_parts {s : D} (h : s ∈ plainsL) : ∃ w p q, s = .tup [.str w, p, q] ∧ eqD (.str w) (.str "if") = some (.bl false) ∧ s.pl = true ∧ s.py.depth = 1 := by
  have k : ∀ s ∈ plainsL, (match s with
    | .tup [.str w, p, q] => decide (w ≠ "if") && (PyData.strOk w && (s.pl && decide (s.py.depth = 1)))
    | _ => false) = true := List.all_eq_true.mp (by decide +kernel)
  have q := k s h
  split at q
  · rename_i w p q2
    simp only [Bool.and_eq_true] at q
    refine ⟨w, p, q2, rfl, ?_, q.2.2.1, of_decide_eq_true q.2.2.2⟩
    have hw := of_decide_eq_true q.1
    unfold eqD
    have e1 : (D.str w).pl = true := by unfold D.pl; exact q.2.1
    have e2 : (D.str "if").pl = true := by decide +kernel
    rw [if_pos ⟨e1, e2, Nat.le_trans (Nat.min_le_left _ _) (by unfold D.py; simp [PyData.depth])⟩]
    have e3 : D.eqv (.str w) (.str "if") = false := by
      unfold D.eqv D.py
      simp only [PyData.eqv, beq_eq_false_iff_ne]
      exact hw
    rw [e3]
  · cases q
theorem if_if : eqD (.str "if") (.str "if") = some (.bl true) := by kernel_rfl
theorem test_pl {t : D} (h : t ∈ testsL) : t.pl = true ∧ t.py.depth = 1 := by
  have k : ∀ t ∈ testsL, (t.pl && decide (t.py.depth = 1)) = true := List.all_eq_true.mp (by decide +kernel)
  have q := k t h
  rw [Bool.and_eq_true] at q
  exact ⟨q.1, of_decide_eq_true q.2⟩
mutual
theorem Stm.pl_ok : ∀ {n : Nat} {s : Stm}, s.ok n → s.d.pl = true ∧ s.d.py.depth ≤ 2 * n
  | n, .pl s, h => by
    unfold Stm.ok at h
    obtain ⟨_, _, _, _, _, h1, h2⟩ := plain_parts h.1
    unfold Stm.d
    exact ⟨h1, by rw [h2]; omega⟩
  | n, .cd t a b, h => by
    unfold Stm.ok at h
    obtain ⟨h1, h2⟩ := Stm.pls_ok h.2.2.2.2.1
    obtain ⟨h3, h4⟩ := Stm.pls_ok h.2.2.2.2.2
    obtain ⟨h5, h6⟩ := test_pl h.1
    have hn := h.2.1
    have e : (D.str "if").pl = true := by decide +kernel
    refine ⟨?_, ?_⟩
    · simp only [Stm.d, D.pl, D.pls, h1, h3, h5, Bool.and_self, Bool.true_and] at e ⊢
      rw [e]; rfl
    · simp only [Stm.d, D.py, D.pys, PyData.depth, PyData.depthAll, h6]
      omega
theorem Stm.pls_ok : ∀ {n : Nat} {l : List Stm}, Stm.oks n l → D.pls (Stm.ds l) = true ∧ PyData.depthAll (D.pys (Stm.ds l)) ≤ 2 * n
  | n, [], _ => by simp [Stm.ds, D.pls, D.pys, PyData.depthAll]
  | n, s :: r, h => by
    unfold Stm.oks at h
    obtain ⟨h1, h2⟩ := Stm.pl_ok h.1
    obtain ⟨h3, h4⟩ := Stm.pls_ok h.2
    simp only [Stm.ds, D.pls, D.pys, PyData.depthAll, h1, h3, Bool.and_self]
    refine ⟨trivial, ?_⟩
    omega
end
end Cd

set_option Elab.async false
set_option linter.all false
set_option autoImplicit false
set_option maxRecDepth 100000
set_option maxHeartbeats 1000000
/-! Core17: a statement left out. -/
namespace Cd
open PySem PySem.Spec L2
mutual
/-- without the statement n -/
def Stm.cutS : Stm → Int → List Stm
  | .pl s, n => if n = 0 then [] else [.pl s]
  | .cd t a b, n => if n = 0 then [] else [.cd t (Stm.cuts a (n - 1)) (Stm.cuts b (n - 1 - Stm.szs a))]
def Stm.cuts : List Stm → Int → List Stm
  | [], _ => []
  | s :: r, n => Stm.cutS s n ++ Stm.cuts r (n - s.sz)
end
mutual
/-- as the law does it -/
def Stm.lwS : Stm → Int → List Stm
  | .pl s, n => if n ≠ 0 then [.pl s] else []
  | .cd t a b, n => if 0 < n ∧ n < (Stm.sz (.cd t a b) : Nat) then [.cd t (Stm.lws a (n - 1)) (Stm.lws b (n - 1 - Stm.szs a))] else if n ≠ 0 then [.cd t a b] else []
def Stm.lws : List Stm → Int → List Stm
  | [], _ => []
  | s :: r, n => Stm.lwS s n ++ Stm.lws r (n - s.sz)
end
theorem Stm.cuts_cons (s : Stm) (r : List Stm) (n : Int) : Stm.cuts (s :: r) n = Stm.cutS s n ++ Stm.cuts r (n - s.sz) := by rw [Stm.cuts]
theorem Stm.lws_cons (s : Stm) (r : List Stm) (n : Int) : Stm.lws (s :: r) n = Stm.lwS s n ++ Stm.lws r (n - s.sz) := by rw [Stm.lws]
mutual
theorem Stm.cutS_out : ∀ (s : Stm) (n : Int), n < 0 ∨ (s.sz : Int) ≤ n → Stm.cutS s n = [s]
  | .pl s, n, h => by
    unfold Stm.cutS
    unfold Stm.sz at h
    rw [if_neg (by omega)]
  | .cd t a b, n, h => by
    unfold Stm.cutS
    unfold Stm.sz at h
    rw [if_neg (by omega), Stm.cuts_out a (n - 1) (by omega), Stm.cuts_out b (n - 1 - Stm.szs a) (by omega)]
theorem Stm.cuts_out : ∀ (l : List Stm) (n : Int), n < 0 ∨ (Stm.szs l : Int) ≤ n → Stm.cuts l n = l
  | [], n, _ => by unfold Stm.cuts; rfl
  | s :: r, n, h => by
    rw [Stm.szs_cons] at h
    rw [Stm.cuts_cons, Stm.cutS_out s n (by omega), Stm.cuts_out r (n - s.sz) (by omega)]
    rfl
end
mutual
theorem Stm.lwS_eq : ∀ (s : Stm) (n : Int), Stm.lwS s n = Stm.cutS s n
  | .pl s, n => by
    unfold Stm.lwS Stm.cutS
    by_cases h : n = 0 <;> simp [h]
  | .cd t a b, n => by
    by_cases h0 : n = 0
    · subst h0
      unfold Stm.lwS Stm.cutS
      simp
    · by_cases h : 0 < n ∧ n < (Stm.sz (.cd t a b) : Nat)
      · unfold Stm.lwS Stm.cutS
        rw [if_pos h, if_neg h0, Stm.lws_eq a, Stm.lws_eq b]
      · rw [Stm.cutS_out (.cd t a b) n (by omega)]
        unfold Stm.lwS
        rw [if_neg h, if_pos h0]
theorem Stm.lws_eq : ∀ (l : List Stm) (n : Int), Stm.lws l n = Stm.cuts l n
  | [], n => by unfold Stm.lws Stm.cuts; rfl
  | s :: r, n => by rw [Stm.lws_cons, Stm.cuts_cons, Stm.lwS_eq s, Stm.lws_eq r]
end
mutual
theorem Stm.cutS_len : ∀ (s : Stm) (n : Int), (Stm.cutS s n).length ≤ 1
  | .pl s, n => by unfold Stm.cutS; split <;> simp
  | .cd t a b, n => by unfold Stm.cutS; split <;> simp
theorem Stm.cuts_len : ∀ (l : List Stm) (n : Int), (Stm.cuts l n).length ≤ l.length
  | [], n => by unfold Stm.cuts; simp
  | s :: r, n => by
    rw [Stm.cuts_cons, List.length_append, List.length_cons]
    have := Stm.cutS_len s n
    have := Stm.cuts_len r (n - s.sz)
    omega
end
mutual
theorem Stm.cutS_ok : ∀ {k : Nat} (s : Stm) (n : Int), s.ok k → Stm.oks k (Stm.cutS s n)
  | k, .pl s, n, h => by
    unfold Stm.cutS
    split
    · unfold Stm.oks; trivial
    · exact (Stm.oks_cons _ _).mpr ⟨h, by unfold Stm.oks; trivial⟩
  | k, .cd t a b, n, h => by
    unfold Stm.cutS
    unfold Stm.ok at h
    split
    · unfold Stm.oks; trivial
    · refine (Stm.oks_cons _ _).mpr ⟨?_, by unfold Stm.oks; trivial⟩
      unfold Stm.ok
      exact ⟨h.1, h.2.1, Nat.le_trans (Stm.cuts_len _ _) h.2.2.1, Nat.le_trans (Stm.cuts_len _ _) h.2.2.2.1, Stm.cuts_ok a _ h.2.2.2.2.1, Stm.cuts_ok b _ h.2.2.2.2.2⟩
theorem Stm.cuts_ok : ∀ {k : Nat} (l : List Stm) (n : Int), Stm.oks k l → Stm.oks k (Stm.cuts l n)
  | k, [], n, _ => by unfold Stm.cuts Stm.oks; trivial
  | k, s :: r, n, h => by
    rw [Stm.oks_cons] at h
    rw [Stm.cuts_cons]
    exact Stm.oks_app.mpr ⟨Stm.cutS_ok s n h.1, Stm.cuts_ok r _ h.2⟩
end
end Cd

set_option Elab.async false
set_option linter.all false
set_option autoImplicit false
set_option maxRecDepth 100000
set_option maxHeartbeats 4000000
namespace Cd.K02
open PySem PySem.Spec L2 L2H LamX Cd
def top (i : Nat) : Stmt := PySem.Challenge.pw_cordshares_k02_statements_left_out.main.body.getD i (.Pass ⟨0, 0, 0, 0⟩)
abbrev FnP (K : PySem.W.Frag) (x : Str) (st : Stmt) (f : Addr) (fd : FuncData) : Prop := FunD K x x (defArgs st) (defBody st) (defScope st) [] [] f fd
abbrev c_DEEPEST : D := (.int 3)
abbrev c_MOST_STATEMENTS : D := (.int 16)
abbrev c_PLACES : D := (.tup [(.str "a"), (.str "b"), (.str "c")])
abbrev N_is_whole : List Str := ["value", "low", "high"]
abbrev st_is_whole : Stmt := top 15
theorem sc_is_whole : FnScope N_is_whole ["value", "low", "high"] (defScope st_is_whole) := ⟨rfl, rfl, rfl, by decide +kernel, rfl, by decide +kernel, by decide +kernel⟩
def b_is_whole : SM Flw :=
  (sRet (vDat (eAnd (eCB isiF (aCons (eVar 0) (aCons (eC (.cst (.ty "int"))) aNil))) (eAnd (eNot (eCB isiF (aCons (eVar 0) (aCons (eC (.cst (.ty "bool"))) aNil)))) (eChain leD leD (eVar 1) (eVar 0) (eVar 2))))))
def f_is_whole : Fn := runFn 3 3 b_is_whole
abbrev N_is_word : List Str := ["value", "words"]
abbrev st_is_word : Stmt := top 16
theorem sc_is_word : FnScope N_is_word ["value", "words"] (defScope st_is_word) := ⟨rfl, rfl, rfl, by decide +kernel, rfl, by decide +kernel, by decide +kernel⟩
def b_is_word : SM Flw :=
  (sRet (vDat (eAnd (eCB isiF (aCons (eVar 0) (aCons (eC (.cst (.ty "str"))) aNil))) (eBin (inD false) (eVar 0) (eVar 1)))))
def f_is_word : Fn := runFn 2 2 b_is_word
abbrev N_are_places : List Str := ["one", "other"]
abbrev st_are_places : Stmt := top 17
theorem sc_are_places : FnScope N_are_places ["one", "other"] (defScope st_are_places) := ⟨rfl, rfl, rfl, by decide +kernel, rfl, by decide +kernel, by decide +kernel⟩
def b_are_places : SM Flw :=
  (sRet (vDat (eAnd (eFrz (eCall f_is_word (gD (eVar 0) (gD (eC c_PLACES) gNilA)))) (eAnd (eFrz (eCall f_is_word (gD (eVar 1) (gD (eC c_PLACES) gNilA)))) (eBin neD (eVar 0) (eVar 1))))))
def f_are_places : Fn := runFn 2 2 b_are_places
abbrev N_is_test : List Str := ["value"]
abbrev st_is_test : Stmt := top 18
theorem sc_is_test : FnScope N_is_test ["value"] (defScope st_is_test) := ⟨rfl, rfl, rfl, by decide +kernel, rfl, by decide +kernel, by decide +kernel⟩
def b_is_test : SM Flw :=
  (sSeq (sIf (bOr (bNot (bOf (eCB isiF (aCons (eVar 0) (aCons (eC (.cst (.ty "tuple"))) aNil))))) (bOr (bOf (eBin neD (eCB lenF (aCons (eVar 0) aNil)) (eC (.int 3)))) (bNot (bOf (eFrz (eCall f_is_word (gD (eBin ixD (eVar 0) (eC (.int 0))) (gD (eTup (aCons (eC (.str "longer")) (aCons (eC (.str "same")) aNil))) gNilA)))))))) (sRet (vDat (eC (.bl false)))) sNx)
    (sRet (eCall f_are_places (gD (eBin ixD (eVar 0) (eC (.int 1))) (gD (eBin ixD (eVar 0) (eC (.int 2))) gNilA)))))
def f_is_test : Fn := runFn 1 1 b_is_test
abbrev N_is_plain : List Str := ["value"]
abbrev st_is_plain : Stmt := top 19
theorem sc_is_plain : FnScope N_is_plain ["value"] (defScope st_is_plain) := ⟨rfl, rfl, rfl, by decide +kernel, rfl, by decide +kernel, by decide +kernel⟩
def b_is_plain : SM Flw :=
  (sSeq (sIf (bOr (bNot (bOf (eCB isiF (aCons (eVar 0) (aCons (eC (.cst (.ty "tuple"))) aNil))))) (bOr (bOf (eBin neD (eCB lenF (aCons (eVar 0) aNil)) (eC (.int 3)))) (bNot (bOf (eCB isiF (aCons (eBin ixD (eVar 0) (eC (.int 0))) (aCons (eC (.cst (.ty "str"))) aNil))))))) (sRet (vDat (eC (.bl false)))) sNx)
    (sSeq (sIf (bOf (eBin eqD (eBin ixD (eVar 0) (eC (.int 0))) (eC (.str "fold")))) (sRet (vDat (eAnd (eFrz (eCall f_is_word (gD (eBin ixD (eVar 0) (eC (.int 1))) (gD (eC c_PLACES) gNilA)))) (eFrz (eCall f_is_whole (gD (eBin ixD (eVar 0) (eC (.int 2))) (gD (eC (.int 2)) (gD (eC (.int 3)) gNilA)))))))) sNx)
    (sRet (vDat (eAnd (eBin (inD false) (eBin ixD (eVar 0) (eC (.int 0))) (eTup (aCons (eC (.str "copy")) (aCons (eC (.str "tie")) (aCons (eC (.str "cut")) aNil))))) (eFrz (eCall f_are_places (gD (eBin ixD (eVar 0) (eC (.int 1))) (gD (eBin ixD (eVar 0) (eC (.int 2))) gNilA)))))))))
def f_is_plain : Fn := runFn 1 1 b_is_plain
abbrev N_is_statement : List Str := ["value", "deep"]
abbrev st_is_statement : Stmt := top 20
theorem sc_is_statement : FnScope N_is_statement ["value", "deep"] (defScope st_is_statement) := ⟨rfl, rfl, rfl, by decide +kernel, rfl, by decide +kernel, by decide +kernel⟩
def b_is_statement (s_is_body : Fn) : SM Flw :=
  (sSeq (sIf (bOr (bNot (bOf (eCB isiF (aCons (eVar 0) (aCons (eC (.cst (.ty "tuple"))) aNil))))) (bOr (bOf (eBin neD (eCB lenF (aCons (eVar 0) aNil)) (eC (.int 4)))) (bNot (bOf (eFrz (eCall f_is_word (gD (eBin ixD (eVar 0) (eC (.int 0))) (gD (eTup (aCons (eC (.str "if")) aNil)) gNilA)))))))) (sRet (vDat (eAnd (eBin gtD (eVar 1) (eC (.int 0))) (eFrz (eCall f_is_plain (gD (eVar 0) gNilA)))))) sNx)
    (sSeq (sIf (bOr (bOf (eBin eqD (eVar 1) (eC (.int 0)))) (bNot (bOf (eFrz (eCall f_is_test (gD (eBin ixD (eVar 0) (eC (.int 1))) gNilA)))))) (sRet (vDat (eC (.bl false)))) sNx)
    (sRet (vDat (eAnd (eFrz (eCall s_is_body (gD (eBin ixD (eVar 0) (eC (.int 2))) (gD (eBin subD (eVar 1) (eC (.int 1))) gNilA)))) (eFrz (eCall s_is_body (gD (eBin ixD (eVar 0) (eC (.int 3))) (gD (eBin subD (eVar 1) (eC (.int 1))) gNilA)))))))))
abbrev N_is_body : List Str := ["value", "deep", "statement"]
abbrev st_is_body : Stmt := top 21
theorem sc_is_body : FnScope N_is_body ["value", "deep"] (defScope st_is_body) := ⟨rfl, rfl, rfl, by decide +kernel, rfl, by decide +kernel, by decide +kernel⟩
def b_is_body (s_is_statement : Fn) : SM Flw :=
  (sSeq (sIf (bOr (bNot (bOf (eCB isiF (aCons (eVar 0) (aCons (eC (.cst (.ty "tuple"))) aNil))))) (bOf (eBin gtD (eCB lenF (aCons (eVar 0) aNil)) (eC (.int 8))))) (sRet (vDat (eC (.bl false)))) sNx)
    (sRet (vDat (eBin eqD (eFrz (eLc [2] (itT (eVar 0)) (gNm 2) (bNot (bOf (eFrz (eCall s_is_statement (gD (eVar 2) (gD (eVar 1) gNilA)))))) (eVar 2))) (eLst aNil)))))
mutual
def f_is_statement : Nat → Fn
  | 0 => fun _ => .bad
  | k + 1 => runFn 2 2 (b_is_statement (f_is_body k))
def f_is_body : Nat → Fn
  | 0 => fun _ => .bad
  | k + 1 => runFn 2 3 (b_is_body (f_is_statement k))
end
abbrev N_size : List Str := ["body", "total", "statement"]
abbrev st_size : Stmt := top 22
theorem sc_size : FnScope N_size ["body"] (defScope st_size) := ⟨rfl, rfl, rfl, by decide +kernel, rfl, by decide +kernel, by decide +kernel⟩
def b_size (s_size : Fn) : SM Flw :=
  (sSeq (sSet 1 (vDat (eCB lenF (aCons (eVar 0) aNil))))
    (sSeq (sFor (itT (eVar 0)) (gNm 2) (sIf (bOf (eBin eqD (eBin ixD (eVar 2) (eC (.int 0))) (eC (.str "if")))) (sSet 1 (vDat (eBin addD (eBin addD (eVar 1) (eFrz (eCall s_size (gD (eBin ixD (eVar 2) (eC (.int 2))) gNilA)))) (eFrz (eCall s_size (gD (eBin ixD (eVar 2) (eC (.int 3))) gNilA)))))) sNx))
    (sRet (vDat (eVar 1)))))
def f_size : Nat → Fn
  | 0 => fun _ => .bad
  | k + 1 => runFn 1 3 (b_size (f_size k))
abbrev N_is_script : List Str := ["value"]
abbrev st_is_script : Stmt := top 23
theorem sc_is_script : FnScope N_is_script ["value"] (defScope st_is_script) := ⟨rfl, rfl, rfl, by decide +kernel, rfl, by decide +kernel, by decide +kernel⟩
def b_is_script : SM Flw :=
  (sRet (vDat (eAnd (eFrz (eCall (f_is_body 12) (gD (eVar 0) (gD (eC c_DEEPEST) gNilA)))) (eBin leD (eFrz (eCall (f_size 8) (gD (eVar 0) gNilA))) (eC c_MOST_STATEMENTS)))))
def f_is_script : Fn := runFn 1 1 b_is_script
abbrev N_need_script : List Str := ["script"]
abbrev st_need_script : Stmt := top 24
theorem sc_need_script : FnScope N_need_script ["script"] (defScope st_need_script) := ⟨rfl, rfl, rfl, by decide +kernel, rfl, by decide +kernel, by decide +kernel⟩
def b_need_script : SM Flw :=
  (sIf (bNot (bOf (eFrz (eCall f_is_script (gD (eVar 0) gNilA))))) (sRaise "InvalidScript") sNx)
def f_need_script : Fn := runFn 1 1 b_need_script
abbrev N_need_number : List Str := ["number", "low", "high"]
abbrev st_need_number : Stmt := top 25
theorem sc_need_number : FnScope N_need_number ["number", "low", "high"] (defScope st_need_number) := ⟨rfl, rfl, rfl, by decide +kernel, rfl, by decide +kernel, by decide +kernel⟩
def b_need_number : SM Flw :=
  (sIf (bNot (bOf (eFrz (eCall f_is_whole (gD (eVar 0) (gD (eVar 1) (gD (eVar 2) gNilA))))))) (sRaise "InvalidNumber") sNx)
def f_need_number : Fn := runFn 3 3 b_need_number
abbrev N_cut_out : List Str := ["body", "first", "number", "found", "statement", "inner", "left", "right"]
abbrev st_cut_out : Stmt := top 26
theorem sc_cut_out : FnScope N_cut_out ["body", "first", "number"] (defScope st_cut_out) := ⟨rfl, rfl, rfl, by decide +kernel, rfl, by decide +kernel, by decide +kernel⟩
def b_cut_out (s_cut_out : Fn) : SM Flw :=
  (sSeq (sSet 3 (vDat (eTup aNil)))
    (sSeq (sFor (itT (eVar 0)) (gNm 4) (sSeq (sSet 5 (vDat (eVar 4)))
    (sSeq (sIf (bOf (eBin eqD (eBin ixD (eVar 4) (eC (.int 0))) (eC (.str "if")))) (sSeq (sSet 6 (eCall s_cut_out (gD (eBin ixD (eVar 4) (eC (.int 2))) (gD (eBin addD (eVar 1) (eC (.int 1))) (gD (eVar 2) gNilA)))))
    (sSeq (sSet 7 (eCall s_cut_out (gD (eBin ixD (eVar 4) (eC (.int 3))) (gD (eBin addD (eBin addD (eVar 1) (eC (.int 1))) (eFrz (eCall (f_size 8) (gD (eBin ixD (eVar 4) (eC (.int 2))) gNilA)))) (gD (eVar 2) gNilA)))))
    (sSet 5 (vDat (eTup (aCons (eC (.str "if")) (aCons (eBin ixD (eVar 4) (eC (.int 1))) (aCons (eVar 6) (aCons (eVar 7) aNil))))))))) sNx)
    (sSeq (sIf (bOf (eBin neD (eVar 1) (eVar 2))) (sSet 3 (vDat (eBin addD (eVar 3) (eTup (aCons (eVar 5) aNil))))) sNx)
    (sSet 1 (vDat (eBin addD (eVar 1) (eFrz (eCall (f_size 8) (gD (eTup (aCons (eVar 4) aNil)) gNilA))))))))))
    (sRet (vDat (eVar 3)))))
def f_cut_out : Nat → Fn
  | 0 => fun _ => .bad
  | k + 1 => runFn 3 8 (b_cut_out (f_cut_out k))
abbrev N_without : List Str := ["script", "number"]
abbrev st_without : Stmt := top 27
theorem sc_without : FnScope N_without ["script", "number"] (defScope st_without) := ⟨rfl, rfl, rfl, by decide +kernel, rfl, by decide +kernel, by decide +kernel⟩
def b_without : SM Flw :=
  (sSeq (sDrop (eCall f_need_script (gD (eVar 0) gNilA)))
    (sSeq (sDrop (eCall f_need_number (gD (eVar 1) (gD (eC (.int 0)) (gD (eBin subD (eFrz (eCall (f_size 8) (gD (eVar 0) gNilA))) (eC (.int 1))) gNilA)))))
    (sRet (eCall (f_cut_out 8) (gD (eVar 0) (gD (eC (.int 0)) (gD (eVar 1) gNilA)))))))
def f_without : Fn := runFn 2 2 b_without
abbrev N_law_vat : List Str := ["script", "k", "cell"]
abbrev st_law_vat : Stmt := top 29
theorem sc_law_vat : FnScope N_law_vat ["script", "k"] (defScope st_law_vat) := ⟨rfl, rfl, rfl, by decide +kernel, rfl, by decide +kernel, by decide +kernel⟩
def b_law_vat : SM Flw :=
  (sSeq (sSet 2 (vDat (eBin addD (eBin mulD (eC (.int 7919)) (eVar 1)) (eC (.int 43)))))
    (sSeq (sIf (bOf (eBin ltD (eVar 1) (eCB lenF (aCons (eVar 0) aNil)))) (sSet 2 (vDat (eCB absF (aCons (eCB intF (aCons (eBin ixD (eVar 0) (eVar 1)) aNil)) aNil)))) sNx)
    (sRet (vLst (aCons (eIf (bOf (eBin geD (eVar 2) (eBin powD (eC (.int 10)) (eC (.int 18))))) (eVar 2) (eC (.int 0))) (aCons (eBin addD (eBin modD (eCB intF (aCons (eBin addD (eBin addD (eBin mulD (eVar 2) (eC (.int 131071))) (eBin mulD (eC (.int 8191)) (eVar 1))) (eC (.int 5))) aNil)) (eC (.int 2147483629))) (eC (.int 1))) aNil))))))
def f_law_vat : Fn := runFn 2 3 b_law_vat
abbrev N_law_under : List Str := ["vat", "many", "found", "wide"]
abbrev st_law_under : Stmt := top 30
theorem sc_law_under : FnScope N_law_under ["vat", "many"] (defScope st_law_under) := ⟨rfl, rfl, rfl, by decide +kernel, rfl, by decide +kernel, by decide +kernel⟩
def b_law_under : SM Flw :=
  (sSeq (sIf (bOf (eBin gtD (eIxO 0 (eC (.int 0))) (eC (.int 0)))) (sSeq (sSet 2 (vDat (eBin modD (eCB intF (aCons (eIxO 0 (eC (.int 0))) aNil)) (eVar 1))))
    (sSeq (sSetI 0 (eBin fdivD (eIxO 0 (eC (.int 0))) (eVar 1)) (eC (.int 0)))
    (sRet (vDat (eVar 2))))) sNx)
    (sSeq (sSetI 0 (eBin modD (eCB intF (aCons (eBin addD (eBin mulD (eIxO 0 (eC (.int 1))) (eC (.int 39373))) (eC (.int 101))) aNil)) (eC (.int 2147483629))) (eC (.int 1)))
    (sSeq (sSet 3 (vDat (eBin modD (eCB intF (aCons (eBin mulD (eIxO 0 (eC (.int 1))) (eBin addD (eBin fdivD (eIxO 0 (eC (.int 1))) (eC (.int 5))) (eC (.int 9)))) aNil)) (eC (.int 2147483587)))))
    (sRet (vDat (eBin modD (eCB intF (aCons (eBin fdivD (eVar 3) (eC (.int 32))) aNil)) (eVar 1)))))))
def f_law_under : Fn := runFn 2 4 b_law_under
abbrev N_law_some : List Str := ["vat", "things"]
abbrev st_law_some : Stmt := top 31
theorem sc_law_some : FnScope N_law_some ["vat", "things"] (defScope st_law_some) := ⟨rfl, rfl, rfl, by decide +kernel, rfl, by decide +kernel, by decide +kernel⟩
def b_law_some : SM Flw :=
  (sRet (vDat (eBin ixD (eVar 1) (eFrz (eCall f_law_under (gO 0 (gD (eCB lenF (aCons (eVar 1) aNil)) gNilA)))))))
def f_law_some : Fn := runFn 2 2 b_law_some
abbrev N_law_many : List Str := ["body", "total", "statement"]
abbrev st_law_many : Stmt := top 32
theorem sc_law_many : FnScope N_law_many ["body"] (defScope st_law_many) := ⟨rfl, rfl, rfl, by decide +kernel, rfl, by decide +kernel, by decide +kernel⟩
def b_law_many (s_law_many : Fn) : SM Flw :=
  (sSeq (sSet 1 (vDat (eC (.int 0))))
    (sSeq (sFor (itT (eVar 0)) (gNm 2) (sSeq (sSet 1 (vDat (eBin addD (eVar 1) (eC (.int 1)))))
    (sIf (bOf (eBin eqD (eBin ixD (eVar 2) (eC (.int 0))) (eC (.str "if")))) (sSet 1 (vDat (eBin addD (eBin addD (eVar 1) (eFrz (eCall s_law_many (gD (eBin ixD (eVar 2) (eC (.int 2))) gNilA)))) (eFrz (eCall s_law_many (gD (eBin ixD (eVar 2) (eC (.int 3))) gNilA)))))) sNx)))
    (sRet (vDat (eVar 1)))))
def f_law_many : Nat → Fn
  | 0 => fun _ => .bad
  | k + 1 => runFn 1 3 (b_law_many (f_law_many k))
abbrev N_law_two : List Str := ["vat", "one", "other"]
abbrev st_law_two : Stmt := top 33
theorem sc_law_two : FnScope N_law_two ["vat"] (defScope st_law_two) := ⟨rfl, rfl, rfl, by decide +kernel, rfl, by decide +kernel, by decide +kernel⟩
def b_law_two : SM Flw :=
  (sSeq (sSet 1 (eCall f_law_some (gO 0 (gD (eLst (aCons (eC (.str "a")) (aCons (eC (.str "b")) (aCons (eC (.str "c")) aNil)))) gNilA))))
    (sRet (vDat (eTup (aCons (eVar 1) (aCons (eFrz (eCall f_law_some (gO 0 (gD (eFrz (eLc [2] (itL (eLst (aCons (eC (.str "a")) (aCons (eC (.str "b")) (aCons (eC (.str "c")) aNil))))) (gNm 2) (bOf (eBin neD (eVar 2) (eVar 1))) (eVar 2))) gNilA)))) aNil))))))
def f_law_two : Fn := runFn 1 3 b_law_two
abbrev N_law_plain : List Str := ["vat", "word", "one", "other"]
abbrev st_law_plain : Stmt := top 34
theorem sc_law_plain : FnScope N_law_plain ["vat"] (defScope st_law_plain) := ⟨rfl, rfl, rfl, by decide +kernel, rfl, by decide +kernel, by decide +kernel⟩
def b_law_plain : SM Flw :=
  (sSeq (sSet 1 (eCall f_law_some (gO 0 (gD (eLst (aCons (eC (.str "copy")) (aCons (eC (.str "tie")) (aCons (eC (.str "cut")) (aCons (eC (.str "cut")) (aCons (eC (.str "fold")) (aCons (eC (.str "fold")) aNil))))))) gNilA))))
    (sSeq (sAsg (eFrz (eCall f_law_two (gO 0 gNilA))) (gTp 2 (gCons (gNm 2) (gCons (gNm 3) gNil))))
    (sSeq (sIf (bOf (eBin eqD (eVar 1) (eC (.str "fold")))) (sRet (vDat (eTup (aCons (eC (.str "fold")) (aCons (eVar 2) (aCons (eFrz (eCall f_law_some (gO 0 (gD (eLst (aCons (eC (.int 2)) (aCons (eC (.int 2)) (aCons (eC (.int 3)) aNil)))) gNilA)))) aNil)))))) sNx)
    (sSeq (sIf (bAnd (bOf (eBin eqD (eVar 1) (eC (.str "tie")))) (bOf (eBin eqD (eFrz (eCall f_law_under (gO 0 (gD (eC (.int 2)) gNilA)))) (eC (.int 0))))) (sRet (vDat (eTup (aCons (eC (.str "copy")) (aCons (eC (.str "c")) (aCons (eFrz (eCall f_law_some (gO 0 (gD (eLst (aCons (eC (.str "a")) (aCons (eC (.str "b")) aNil))) gNilA)))) aNil)))))) sNx)
    (sRet (vDat (eTup (aCons (eVar 1) (aCons (eVar 2) (aCons (eVar 3) aNil))))))))))
def f_law_plain : Fn := runFn 1 4 b_law_plain
abbrev N_law_body : List Str := ["vat", "many", "deep", "found", "statement", "one", "other", "first_so", "rest", "second_so", "test"]
abbrev st_law_body : Stmt := top 35
theorem sc_law_body : FnScope N_law_body ["vat", "many", "deep"] (defScope st_law_body) := ⟨rfl, rfl, rfl, by decide +kernel, rfl, by decide +kernel, by decide +kernel⟩
def b_law_body (s_law_body : Fn) : SM Flw :=
  (sSeq (sSet 3 (vDat (eTup aNil)))
    (sSeq (sWhile (fun _ => 1000) (bAnd (bOf (eBin gtD (eVar 1) (eC (.int 0)))) (bOf (eBin ltD (eCB lenF (aCons (eVar 3) aNil)) (eC (.int 8))))) (sSeq (sSet 4 (eCall f_law_plain (gO 0 gNilA)))
    (sSeq (sIf (bOf (eBin eqD (eFrz (eCall f_law_under (gO 0 (gD (eC (.int 4)) gNilA)))) (eC (.int 0)))) (sSeq (sAsg (eFrz (eCall f_law_some (gO 0 (gD (eLst (aCons (eTup (aCons (eC (.str "a")) (aCons (eC (.str "b")) aNil))) (aCons (eTup (aCons (eC (.str "a")) (aCons (eC (.str "b")) aNil))) (aCons (eTup (aCons (eC (.str "b")) (aCons (eC (.str "a")) aNil))) (aCons (eFrz (eCall f_law_two (gO 0 gNilA))) aNil))))) gNilA)))) (gTp 2 (gCons (gNm 5) (gCons (gNm 6) gNil))))
    (sSeq (sSet 7 (vDat (eIf (bOf (eBin gtD (eVar 2) (eC (.int 1)))) (eFrz (eCall s_law_body (gO 0 (gD (eFrz (eCall f_law_under (gO 0 (gD (eVar 1) gNilA)))) (gD (eBin subD (eVar 2) (eC (.int 1))) gNilA))))) (eTup aNil))))
    (sSeq (sSet 8 (vDat (eBin subD (eVar 1) (eFrz (eCall (f_law_many 8) (gD (eVar 7) gNilA))))))
    (sSeq (sSet 9 (vDat (eTup aNil)))
    (sSeq (sIf (bOf (eBin gtD (eVar 2) (eC (.int 1)))) (sSet 9 (eCall s_law_body (gO 0 (gD (eFrz (eCall f_law_under (gO 0 (gD (eVar 8) gNilA)))) (gD (eBin subD (eVar 2) (eC (.int 1))) gNilA))))) sNx)
    (sSeq (sSet 10 (vDat (eTup (aCons (eFrz (eCall f_law_some (gO 0 (gD (eLst (aCons (eC (.str "longer")) (aCons (eC (.str "longer")) (aCons (eC (.str "same")) aNil)))) gNilA)))) (aCons (eVar 5) (aCons (eVar 6) aNil))))))
    (sSet 4 (vDat (eTup (aCons (eC (.str "if")) (aCons (eVar 10) (aCons (eVar 7) (aCons (eVar 9) aNil))))))))))))) sNx)
    (sSeq (sSet 3 (vDat (eBin addD (eVar 3) (eTup (aCons (eVar 4) aNil)))))
    (sSet 1 (vDat (eBin subD (eVar 1) (eFrz (eCall (f_law_many 8) (gD (eTup (aCons (eVar 4) aNil)) gNilA))))))))))
    (sRet (vDat (eVar 3)))))
def f_law_body : Nat → Fn
  | 0 => fun _ => .bad
  | k + 1 => runFn 3 11 (b_law_body (f_law_body k))
abbrev N_law_script : List Str := ["vat", "most"]
abbrev st_law_script : Stmt := top 36
theorem sc_law_script : FnScope N_law_script ["vat", "most"] (defScope st_law_script) := ⟨rfl, rfl, rfl, by decide +kernel, rfl, by decide +kernel, by decide +kernel⟩
def b_law_script : SM Flw :=
  (sRet (eCall (f_law_body 8) (gO 0 (gD (eFrz (eCall f_law_under (gO 0 (gD (eBin addD (eVar 1) (eC (.int 1))) gNilA)))) (gD (eC (.int 3)) gNilA)))))
def f_law_script : Fn := runFn 2 2 b_law_script
abbrev N_law_names : List Str := ["e", "some", "words_so", "word", "good"]
abbrev st_law_names : Stmt := top 37
theorem sc_law_names : FnScope N_law_names ["e"] (defScope st_law_names) := ⟨rfl, rfl, rfl, by decide +kernel, rfl, by decide +kernel, by decide +kernel⟩
def b_law_names (K : PySem.W.Frag) (t : V → Option Bool) (a : Addr) : SM Flw :=
  (sSeq (sSet 1 (vDat (eLst (aCons (eCB (excD t a) (aCons (eVar 0) (aCons (eC (.cst (.ref (He.ga K "InvalidScript")))) aNil))) (aCons (eCB (excD t a) (aCons (eVar 0) (aCons (eC (.cst (.ref (He.ga K "InvalidLengths")))) aNil))) (aCons (eCB (excD t a) (aCons (eVar 0) (aCons (eC (.cst (.ref (He.ga K "InvalidPlace")))) aNil))) (aCons (eCB (excD t a) (aCons (eVar 0) (aCons (eC (.cst (.ref (He.ga K "InvalidShare")))) aNil))) (aCons (eCB (excD t a) (aCons (eVar 0) (aCons (eC (.cst (.ref (He.ga K "InvalidStretch")))) aNil))) (aCons (eCB (excD t a) (aCons (eVar 0) (aCons (eC (.cst (.ref (He.ga K "InvalidNumber")))) aNil))) (aCons (eCB (excD t a) (aCons (eVar 0) (aCons (eC (.cst (.ref (He.ga K "InvalidAnswers")))) aNil))) (aCons (eCB (excD t a) (aCons (eVar 0) (aCons (eC (.cst (.ref (He.ga K "NothingToUndo")))) aNil))) (aCons (eCB (excD t a) (aCons (eVar 0) (aCons (eC (.cst (.ref (He.ga K "InvalidText")))) aNil))) (aCons (eCB (excD t a) (aCons (eVar 0) (aCons (eC (.cst (.ty "ValueError"))) aNil))) aNil)))))))))))))
    (sSeq (sSet 2 (vDat (eC (.str "script lengths place share stretch number answers undo text value"))))
    (sRet (vDat (eMeth joinF (eC (.str " ")) (eFrz (eLc [3, 4] (itZl (aCons (eMeth splitF (eVar 2) (eC (.str " "))) (aCons (eVar 1) aNil))) (gTp 2 (gCons (gNm 3) (gCons (gNm 4) gNil))) (bOf (eVar 4)) (eVar 3))))))))
abbrev N_law_error : List Str := ["call", "e"]
abbrev st_law_error : Stmt := top 38
theorem sc_law_error : FnScope N_law_error ["call"] (defScope st_law_error) := ⟨rfl, rfl, rfl, by decide +kernel, rfl, by decide +kernel, by decide +kernel⟩
abbrev N_law_without : List Str := ["body", "number", "found", "at", "statement", "many", "ahead", "left_so", "right_so"]
abbrev st_law_without : Stmt := top 39
theorem sc_law_without : FnScope N_law_without ["body", "number"] (defScope st_law_without) := ⟨rfl, rfl, rfl, by decide +kernel, rfl, by decide +kernel, by decide +kernel⟩
def b_law_without (s_law_without : Fn) : SM Flw :=
  (sSeq (sAsg (eTup (aCons (eTup aNil) (aCons (eC (.int 0)) aNil))) (gTp 2 (gCons (gNm 2) (gCons (gNm 3) gNil))))
    (sSeq (sFor (itT (eVar 0)) (gNm 4) (sSeq (sSet 5 (eCall (f_law_many 8) (gD (eTup (aCons (eVar 4) aNil)) gNilA)))
    (sSeq (sIf (bOf (eChain ltD ltD (eVar 3) (eVar 1) (eBin addD (eVar 3) (eVar 5)))) (sSeq (sSet 6 (eCall (f_law_many 8) (gD (eBin ixD (eVar 4) (eC (.int 2))) gNilA)))
    (sSeq (sSet 7 (eCall s_law_without (gD (eBin ixD (eVar 4) (eC (.int 2))) (gD (eBin subD (eBin subD (eVar 1) (eVar 3)) (eC (.int 1))) gNilA))))
    (sSeq (sSet 8 (eCall s_law_without (gD (eBin ixD (eVar 4) (eC (.int 3))) (gD (eBin subD (eBin subD (eBin subD (eVar 1) (eVar 3)) (eC (.int 1))) (eVar 6)) gNilA))))
    (sSet 2 (vDat (eBin addD (eVar 2) (eTup (aCons (eTup (aCons (eC (.str "if")) (aCons (eBin ixD (eVar 4) (eC (.int 1))) (aCons (eVar 7) (aCons (eVar 8) aNil))))) aNil)))))))) (sIf (bOf (eBin neD (eVar 3) (eVar 1))) (sSet 2 (vDat (eBin addD (eVar 2) (eTup (aCons (eVar 4) aNil))))) sNx))
    (sSet 3 (vDat (eBin addD (eVar 3) (eVar 5)))))))
    (sRet (vDat (eVar 2)))))
def f_law_without : Nat → Fn
  | 0 => fun _ => .bad
  | k + 1 => runFn 2 9 (b_law_without (f_law_without k))
abbrev N_law : List Str := ["script", "k", "vat", "body", "number", "odd", "fold", "tie"]
abbrev st_law : Stmt := top 40
theorem sc_law : FnScope N_law ["script"] (defScope st_law) := ⟨rfl, rfl, rfl, by decide +kernel, rfl, by decide +kernel, by decide +kernel⟩
def b_law : SM Flw :=
  (sSeq (sFor (itR1 (aCons (eCB maxF (aCons (eC (.int 5)) (aCons (eCB minF (aCons (eC (.int 12)) (aCons (eCB lenF (aCons (eVar 0) aNil)) aNil))) aNil))) aNil)) (gNm 1) (sSeq (sSet 2 (eCall f_law_vat (gD (eVar 0) (gD (eVar 1) gNilA))))
    (sSeq (sSet 3 (eCall f_law_script (gO 2 (gD (eC (.int 16)) gNilA))))
    (sSeq (sFor (itR1 (aCons (eFrz (eCall (f_law_many 8) (gD (eVar 3) gNilA))) aNil)) (gNm 4) (sIf (bOf (eBin neD (eFrz (eCall f_without (gD (eVar 3) (gD (eVar 4) gNilA)))) (eFrz (eCall (f_law_without 8) (gD (eVar 3) (gD (eVar 4) gNilA)))))) (sRet (vDat (eC (.bl false)))) sNx))
    (sSeq (sFor (itL (eLst (aCons (eUn negD (eC (.int 1))) (aCons (eFrz (eCall (f_law_many 8) (gD (eVar 3) gNilA))) (aCons (eC .non) (aCons (eC (.bl true)) (aCons (eC (.str "0")) aNil))))))) (gNm 5) (sIf (bOf (eBin neD (eErr wd (eFrz (eCall f_without (gD (eVar 3) (gD (eVar 5) gNilA))))) (eC (.str "number value")))) (sRet (vDat (eC (.bl false)))) sNx))
    (sIf (bOf (eBin neD (eErr wd (eFrz (eCall f_without (gD (eCB lstF (aCons (eVar 3) aNil)) (gD (eC .non) gNilA))))) (eC (.str "script value")))) (sRet (vDat (eC (.bl false)))) sNx))))))
    (sSeq (sAsg (eTup (aCons (eTup (aCons (eC (.str "fold")) (aCons (eC (.str "c")) (aCons (eC (.int 3)) aNil)))) (aCons (eTup (aCons (eC (.str "tie")) (aCons (eC (.str "a")) (aCons (eC (.str "c")) aNil)))) aNil))) (gTp 2 (gCons (gNm 6) (gCons (gNm 7) gNil))))
    (sSeq (sSet 3 (vDat (eTup (aCons (eTup (aCons (eC (.str "if")) (aCons (eTup (aCons (eC (.str "same")) (aCons (eC (.str "b")) (aCons (eC (.str "c")) aNil)))) (aCons (eTup (aCons (eVar 6) (aCons (eVar 7) aNil))) (aCons (eTup (aCons (eVar 7) aNil)) aNil))))) (aCons (eVar 6) aNil)))))
    (sSeq (sIf (bOr (bOf (eBin neD (eFrz (eCall f_without (gD (eVar 3) (gD (eC (.int 0)) gNilA)))) (eTup (aCons (eVar 6) aNil)))) (bOf (eBin neD (eFrz (eCall f_without (gD (eVar 3) (gD (eC (.int 4)) gNilA)))) (eSl (eVar 3) pNone (pSome (eC (.int 1))))))) (sRet (vDat (eC (.bl false)))) sNx)
    (sRet (vDat (eBin eqD (eFrz (eCall f_without (gD (eVar 3) (gD (eC (.int 3)) gNilA)))) (eTup (aCons (eTup (aCons (eC (.str "if")) (aCons (eTup (aCons (eC (.str "same")) (aCons (eC (.str "b")) (aCons (eC (.str "c")) aNil)))) (aCons (eTup (aCons (eVar 6) (aCons (eVar 7) aNil))) (aCons (eTup aNil) aNil))))) (aCons (eVar 6) aNil))))))))))
def f_law : Fn := runFn 1 8 b_law
structure T (K : PySem.W.Frag) (mg : Str → Option Value) where
  fd_is_whole : FuncData
  F_is_whole : FnP K "is_whole" st_is_whole (He.ga K "is_whole") fd_is_whole
  g_is_whole : mg "is_whole" = some (.ref (He.ga K "is_whole"))
  fd_is_word : FuncData
  F_is_word : FnP K "is_word" st_is_word (He.ga K "is_word") fd_is_word
  g_is_word : mg "is_word" = some (.ref (He.ga K "is_word"))
  fd_are_places : FuncData
  F_are_places : FnP K "are_places" st_are_places (He.ga K "are_places") fd_are_places
  g_are_places : mg "are_places" = some (.ref (He.ga K "are_places"))
  fd_is_test : FuncData
  F_is_test : FnP K "is_test" st_is_test (He.ga K "is_test") fd_is_test
  g_is_test : mg "is_test" = some (.ref (He.ga K "is_test"))
  fd_is_plain : FuncData
  F_is_plain : FnP K "is_plain" st_is_plain (He.ga K "is_plain") fd_is_plain
  g_is_plain : mg "is_plain" = some (.ref (He.ga K "is_plain"))
  fd_is_statement : FuncData
  F_is_statement : FnP K "is_statement" st_is_statement (He.ga K "is_statement") fd_is_statement
  g_is_statement : mg "is_statement" = some (.ref (He.ga K "is_statement"))
  fd_is_body : FuncData
  F_is_body : FnP K "is_body" st_is_body (He.ga K "is_body") fd_is_body
  g_is_body : mg "is_body" = some (.ref (He.ga K "is_body"))
  fd_size : FuncData
  F_size : FnP K "size" st_size (He.ga K "size") fd_size
  g_size : mg "size" = some (.ref (He.ga K "size"))
  fd_is_script : FuncData
  F_is_script : FnP K "is_script" st_is_script (He.ga K "is_script") fd_is_script
  g_is_script : mg "is_script" = some (.ref (He.ga K "is_script"))
  fd_need_script : FuncData
  F_need_script : FnP K "need_script" st_need_script (He.ga K "need_script") fd_need_script
  g_need_script : mg "need_script" = some (.ref (He.ga K "need_script"))
  fd_need_number : FuncData
  F_need_number : FnP K "need_number" st_need_number (He.ga K "need_number") fd_need_number
  g_need_number : mg "need_number" = some (.ref (He.ga K "need_number"))
  fd_cut_out : FuncData
  F_cut_out : FnP K "cut_out" st_cut_out (He.ga K "cut_out") fd_cut_out
  g_cut_out : mg "cut_out" = some (.ref (He.ga K "cut_out"))
  fd_without : FuncData
  F_without : FnP K "without" st_without (He.ga K "without") fd_without
  g_without : mg "without" = some (.ref (He.ga K "without"))
  fd_law_vat : FuncData
  F_law_vat : FnP K "_law_vat" st_law_vat (He.ga K "_law_vat") fd_law_vat
  g_law_vat : mg "_law_vat" = some (.ref (He.ga K "_law_vat"))
  fd_law_under : FuncData
  F_law_under : FnP K "_law_under" st_law_under (He.ga K "_law_under") fd_law_under
  g_law_under : mg "_law_under" = some (.ref (He.ga K "_law_under"))
  fd_law_some : FuncData
  F_law_some : FnP K "_law_some" st_law_some (He.ga K "_law_some") fd_law_some
  g_law_some : mg "_law_some" = some (.ref (He.ga K "_law_some"))
  fd_law_many : FuncData
  F_law_many : FnP K "_law_many" st_law_many (He.ga K "_law_many") fd_law_many
  g_law_many : mg "_law_many" = some (.ref (He.ga K "_law_many"))
  fd_law_two : FuncData
  F_law_two : FnP K "_law_two" st_law_two (He.ga K "_law_two") fd_law_two
  g_law_two : mg "_law_two" = some (.ref (He.ga K "_law_two"))
  fd_law_plain : FuncData
  F_law_plain : FnP K "_law_plain" st_law_plain (He.ga K "_law_plain") fd_law_plain
  g_law_plain : mg "_law_plain" = some (.ref (He.ga K "_law_plain"))
  fd_law_body : FuncData
  F_law_body : FnP K "_law_body" st_law_body (He.ga K "_law_body") fd_law_body
  g_law_body : mg "_law_body" = some (.ref (He.ga K "_law_body"))
  fd_law_script : FuncData
  F_law_script : FnP K "_law_script" st_law_script (He.ga K "_law_script") fd_law_script
  g_law_script : mg "_law_script" = some (.ref (He.ga K "_law_script"))
  fd_law_names : FuncData
  F_law_names : FnP K "_law_names" st_law_names (He.ga K "_law_names") fd_law_names
  g_law_names : mg "_law_names" = some (.ref (He.ga K "_law_names"))
  fd_law_error : FuncData
  F_law_error : FnP K "_law_error" st_law_error (He.ga K "_law_error") fd_law_error
  g_law_error : mg "_law_error" = some (.ref (He.ga K "_law_error"))
  fd_law_without : FuncData
  F_law_without : FnP K "_law_without" st_law_without (He.ga K "_law_without") fd_law_without
  g_law_without : mg "_law_without" = some (.ref (He.ga K "_law_without"))
  fd_law : FuncData
  F_law : FnP K "law" st_law (He.ga K "law") fd_law
  g_law : mg "law" = some (.ref (He.ga K "law"))
  n_ValueError : mg "ValueError" = none
  n_abs : mg "abs" = none
  n_bool : mg "bool" = none
  n_int : mg "int" = none
  n_isinstance : mg "isinstance" = none
  n_len : mg "len" = none
  n_list : mg "list" = none
  n_max : mg "max" = none
  n_min : mg "min" = none
  n_range : mg "range" = none
  n_str : mg "str" = none
  n_tuple : mg "tuple" = none
  n_zip : mg "zip" = none
  g_InvalidAnswers : mg "InvalidAnswers" = some (.ref (He.ga K "InvalidAnswers"))
  g_InvalidLengths : mg "InvalidLengths" = some (.ref (He.ga K "InvalidLengths"))
  g_InvalidNumber : mg "InvalidNumber" = some (.ref (He.ga K "InvalidNumber"))
  x_InvalidNumber : PySem.W.excIn K (He.ga K "InvalidNumber") He.veBase "ValueError.__new__" = true ∧ PySem.W.keepIn K (.ref (He.ga K "InvalidNumber")) = true ∧ PySem.W.subIn K (.ref (He.ga K "InvalidNumber")) (.type "BaseException") = some true ∧ PySem.W.typeIn K (.ref (He.ga K "InvalidNumber")) = some (.type "type")
  g_InvalidPlace : mg "InvalidPlace" = some (.ref (He.ga K "InvalidPlace"))
  g_InvalidScript : mg "InvalidScript" = some (.ref (He.ga K "InvalidScript"))
  x_InvalidScript : PySem.W.excIn K (He.ga K "InvalidScript") He.veBase "ValueError.__new__" = true ∧ PySem.W.keepIn K (.ref (He.ga K "InvalidScript")) = true ∧ PySem.W.subIn K (.ref (He.ga K "InvalidScript")) (.type "BaseException") = some true ∧ PySem.W.typeIn K (.ref (He.ga K "InvalidScript")) = some (.type "type")
  g_InvalidShare : mg "InvalidShare" = some (.ref (He.ga K "InvalidShare"))
  g_InvalidStretch : mg "InvalidStretch" = some (.ref (He.ga K "InvalidStretch"))
  g_InvalidText : mg "InvalidText" = some (.ref (He.ga K "InvalidText"))
  g_NothingToUndo : mg "NothingToUndo" = some (.ref (He.ga K "NothingToUndo"))
  c_DEEPEST : ConstD K mg "DEEPEST" c_DEEPEST
  c_MOST_STATEMENTS : ConstD K mg "MOST_STATEMENTS" c_MOST_STATEMENTS
  c_PLACES : ConstD K mg "PLACES" c_PLACES
  exm : ∀ x y C, wd x = some y → mg x = some (.ref C) → PySem.W.exmOne K (.ref C) (.ref (He.ga K "CordError")) = some true
  exc : ∀ x y C, wd x = some y → mg x = some (.ref C) → ExcC K C
  kit : kitOk K = true
  g_CordError : mg "CordError" = some (.ref (He.ga K "CordError"))
  tabu : ∀ p ∈ tabsOf K, ∀ r ∈ tabsOf K, r.1 = p.1 → r.2 = p.2
  tab_law : ((He.cT K ("law", none)).2, ("law.<locals>.<lambda>" : Str)) ∈ tabsOf K
theorem T.b_is_whole {K : PySem.W.Frag} {mg : Str → Option Value} (T : T K mg) : Binds K T.fd_is_whole ["value", "low", "high"] [] := T.F_is_whole.bindsN fun _ _ _ _ _ _ us hl => match us, hl with | [_, _, _], _ => rfl
theorem T.b_is_word {K : PySem.W.Frag} {mg : Str → Option Value} (T : T K mg) : Binds K T.fd_is_word ["value", "words"] [] := T.F_is_word.bindsN fun _ _ _ _ _ _ us hl => match us, hl with | [_, _], _ => rfl
theorem T.b_are_places {K : PySem.W.Frag} {mg : Str → Option Value} (T : T K mg) : Binds K T.fd_are_places ["one", "other"] [] := T.F_are_places.bindsN fun _ _ _ _ _ _ us hl => match us, hl with | [_, _], _ => rfl
theorem T.b_is_test {K : PySem.W.Frag} {mg : Str → Option Value} (T : T K mg) : Binds K T.fd_is_test ["value"] [] := T.F_is_test.bindsN fun _ _ _ _ _ _ us hl => match us, hl with | [_], _ => rfl
theorem T.b_is_plain {K : PySem.W.Frag} {mg : Str → Option Value} (T : T K mg) : Binds K T.fd_is_plain ["value"] [] := T.F_is_plain.bindsN fun _ _ _ _ _ _ us hl => match us, hl with | [_], _ => rfl
theorem T.b_is_statement {K : PySem.W.Frag} {mg : Str → Option Value} (T : T K mg) : Binds K T.fd_is_statement ["value", "deep"] [] := T.F_is_statement.bindsN fun _ _ _ _ _ _ us hl => match us, hl with | [_, _], _ => rfl
theorem T.b_is_body {K : PySem.W.Frag} {mg : Str → Option Value} (T : T K mg) : Binds K T.fd_is_body ["value", "deep"] [] := T.F_is_body.bindsN fun _ _ _ _ _ _ us hl => match us, hl with | [_, _], _ => rfl
theorem T.b_size {K : PySem.W.Frag} {mg : Str → Option Value} (T : T K mg) : Binds K T.fd_size ["body"] [] := T.F_size.bindsN fun _ _ _ _ _ _ us hl => match us, hl with | [_], _ => rfl
theorem T.b_is_script {K : PySem.W.Frag} {mg : Str → Option Value} (T : T K mg) : Binds K T.fd_is_script ["value"] [] := T.F_is_script.bindsN fun _ _ _ _ _ _ us hl => match us, hl with | [_], _ => rfl
theorem T.b_need_script {K : PySem.W.Frag} {mg : Str → Option Value} (T : T K mg) : Binds K T.fd_need_script ["script"] [] := T.F_need_script.bindsN fun _ _ _ _ _ _ us hl => match us, hl with | [_], _ => rfl
theorem T.b_need_number {K : PySem.W.Frag} {mg : Str → Option Value} (T : T K mg) : Binds K T.fd_need_number ["number", "low", "high"] [] := T.F_need_number.bindsN fun _ _ _ _ _ _ us hl => match us, hl with | [_, _, _], _ => rfl
theorem T.b_cut_out {K : PySem.W.Frag} {mg : Str → Option Value} (T : T K mg) : Binds K T.fd_cut_out ["body", "first", "number"] [] := T.F_cut_out.bindsN fun _ _ _ _ _ _ us hl => match us, hl with | [_, _, _], _ => rfl
theorem T.b_without {K : PySem.W.Frag} {mg : Str → Option Value} (T : T K mg) : Binds K T.fd_without ["script", "number"] [] := T.F_without.bindsN fun _ _ _ _ _ _ us hl => match us, hl with | [_, _], _ => rfl
theorem T.b_law_vat {K : PySem.W.Frag} {mg : Str → Option Value} (T : T K mg) : Binds K T.fd_law_vat ["script", "k"] [] := T.F_law_vat.bindsN fun _ _ _ _ _ _ us hl => match us, hl with | [_, _], _ => rfl
theorem T.b_law_under {K : PySem.W.Frag} {mg : Str → Option Value} (T : T K mg) : Binds K T.fd_law_under ["vat", "many"] [] := T.F_law_under.bindsN fun _ _ _ _ _ _ us hl => match us, hl with | [_, _], _ => rfl
theorem T.b_law_some {K : PySem.W.Frag} {mg : Str → Option Value} (T : T K mg) : Binds K T.fd_law_some ["vat", "things"] [] := T.F_law_some.bindsN fun _ _ _ _ _ _ us hl => match us, hl with | [_, _], _ => rfl
theorem T.b_law_many {K : PySem.W.Frag} {mg : Str → Option Value} (T : T K mg) : Binds K T.fd_law_many ["body"] [] := T.F_law_many.bindsN fun _ _ _ _ _ _ us hl => match us, hl with | [_], _ => rfl
theorem T.b_law_two {K : PySem.W.Frag} {mg : Str → Option Value} (T : T K mg) : Binds K T.fd_law_two ["vat"] [] := T.F_law_two.bindsN fun _ _ _ _ _ _ us hl => match us, hl with | [_], _ => rfl
theorem T.b_law_plain {K : PySem.W.Frag} {mg : Str → Option Value} (T : T K mg) : Binds K T.fd_law_plain ["vat"] [] := T.F_law_plain.bindsN fun _ _ _ _ _ _ us hl => match us, hl with | [_], _ => rfl
theorem T.b_law_body {K : PySem.W.Frag} {mg : Str → Option Value} (T : T K mg) : Binds K T.fd_law_body ["vat", "many", "deep"] [] := T.F_law_body.bindsN fun _ _ _ _ _ _ us hl => match us, hl with | [_, _, _], _ => rfl
theorem T.b_law_script {K : PySem.W.Frag} {mg : Str → Option Value} (T : T K mg) : Binds K T.fd_law_script ["vat", "most"] [] := T.F_law_script.bindsN fun _ _ _ _ _ _ us hl => match us, hl with | [_, _], _ => rfl
theorem T.b_law_names {K : PySem.W.Frag} {mg : Str → Option Value} (T : T K mg) : Binds K T.fd_law_names ["e"] [] := T.F_law_names.bindsN fun _ _ _ _ _ _ us hl => match us, hl with | [_], _ => rfl
theorem T.b_law_error {K : PySem.W.Frag} {mg : Str → Option Value} (T : T K mg) : Binds K T.fd_law_error ["call"] [] := T.F_law_error.bindsN fun _ _ _ _ _ _ us hl => match us, hl with | [_], _ => rfl
theorem T.b_law_without {K : PySem.W.Frag} {mg : Str → Option Value} (T : T K mg) : Binds K T.fd_law_without ["body", "number"] [] := T.F_law_without.bindsN fun _ _ _ _ _ _ us hl => match us, hl with | [_, _], _ => rfl
theorem T.b_law {K : PySem.W.Frag} {mg : Str → Option Value} (T : T K mg) : Binds K T.fd_law ["script"] [] := T.F_law.bindsN fun _ _ _ _ _ _ us hl => match us, hl with | [_], _ => rfl
section
variable {P : Program} {w : World} {K : PySem.W.Frag} {mg : Str → Option Value} {base : Heap}
theorem names_run (T : T K mg) (x y : Str) (C a : Addr) (h : wd x = some y) (g : mg x = some (.ref C)) : ∃ ρ', b_law_names K (tK K C) a (hR a ++ blank (N_law_names.length - 1)) = .ok (.ret (.dat (.str y))) ρ' := by
  have m : (x, y) ∈ errWords := PySem.mem_of_lookup h
  have hx : x ∈ errWords.map (·.1) := List.mem_map.mpr ⟨_, m, rfl⟩
  have gC : C = He.ga K x := by
    simp only [errWords, List.mem_cons, List.not_mem_nil, or_false, Prod.mk.injEq] at m
    rcases m with ⟨rfl, _⟩ | ⟨rfl, _⟩ | ⟨rfl, _⟩ | ⟨rfl, _⟩ | ⟨rfl, _⟩ | ⟨rfl, _⟩ | ⟨rfl, _⟩ | ⟨rfl, _⟩
    · rw [T.g_InvalidScript] at g; cases g; rfl
    · rw [T.g_InvalidLengths] at g; cases g; rfl
    · rw [T.g_InvalidPlace] at g; cases g; rfl
    · rw [T.g_InvalidShare] at g; cases g; rfl
    · rw [T.g_InvalidStretch] at g; cases g; rfl
    · rw [T.g_InvalidNumber] at g; cases g; rfl
    · rw [T.g_InvalidAnswers] at g; cases g; rfl
    · rw [T.g_NothingToUndo] at g; cases g; rfl
  subst gC
  have k : ∀ z : Str, z ∈ errNames → tK K (He.ga K x) (.ref (He.ga K z)) = some (decide (x = z)) := fun z hz => kitOk_ref T.kit hx hz
  have kv := kitOk_ve T.kit hx
  have e1 := k "InvalidScript" (by decide)
  have e2 := k "InvalidLengths" (by decide)
  have e3 := k "InvalidPlace" (by decide)
  have e4 := k "InvalidShare" (by decide)
  have e5 := k "InvalidStretch" (by decide)
  have e6 := k "InvalidNumber" (by decide)
  have e7 := k "InvalidAnswers" (by decide)
  have e8 := k "NothingToUndo" (by decide)
  have e9 := k "InvalidText" (by decide)
  unfold b_law_names
  rw [seq_eval (set_eval (ρ1 := hR a ++ blank (N_law_names.length - 1)) (ds := (errNames.map fun z => D.bl (decide (x = z))) ++ [.bl true]) (aCons_eval (isE_eval e1) (aCons_eval (isE_eval e2) (aCons_eval (isE_eval e3) (aCons_eval (isE_eval e4) (aCons_eval (isE_eval e5) (aCons_eval (isE_eval e6) (aCons_eval (isE_eval e7) (aCons_eval (isE_eval e8) (aCons_eval (isE_eval e9) (aCons_eval (isE_eval kv) aNil_eval)))))))))) (by show 10 ≤ sizeLine; decide) rfl)]
  refine okStr_ok ?_
  clear e1 e2 e3 e4 e5 e6 e7 e8 e9 kv k g h hx
  simp only [errWords, List.mem_cons, List.not_mem_nil, or_false, Prod.mk.injEq] at m
  rcases m with ⟨rfl, rfl⟩ | ⟨rfl, rfl⟩ | ⟨rfl, rfl⟩ | ⟨rfl, rfl⟩ | ⟨rfl, rfl⟩ | ⟨rfl, rfl⟩ | ⟨rfl, rfl⟩ | ⟨rfl, rfl⟩
  all_goals kernel_rfl
theorem names_hx (T : T K mg) : ∀ x y C, wd x = some y → mg x = some (.ref C) → ExcC K C ∧ (∀ c b, tK K C c = some b → ∃ cv, (∀ u, RelV c u → u = cv) ∧ PySem.W.kitOne K (.ref C) cv = some b) ∧ ∀ a, ∃ ρ', b_law_names K (tK K C) a (hR a ++ blank (N_law_names.length - 1)) = .ok (.ret (.dat (.str y))) ρ' := fun x y C h g => ⟨T.exc x y C h g, tK_ok, fun a => names_run T x y C a h g⟩
theorem names_h (T : T K mg) : NamesH P w K mg base 3 (He.ga K "_law_names") T.fd_law_names wd := by
  refine names_ok (tK K) T.F_law_names sc_law_names (by decide) (names_hx T) fun cdv A outer s H E p C hr ph ci cs => ?_
  have hot : HotC (cxH (L2N.CX P w) P w K mg base N_law_names "_law_names" (defScope st_law_names) (He.ga K "_law_names") cdv A outer s H E p) := ⟨p, ph, List.mem_cons_self⟩
  have nd : N_law_names.Nodup := sc_law_names.nd
  have hu := hr.eqRoomH
  exact (ss_cons (s_set (i := 1) nd rfl (.inl rfl) (e_vdat (e_lst (a_cons (e_callB ci cs rfl T.n_isinstance (by decide +kernel) (a_cons (e_var 0 rfl (.inl rfl)) (a_cons (e_cls rfl T.g_InvalidScript) a_nil))) (a_cons (e_callB ci cs rfl T.n_isinstance (by decide +kernel) (a_cons (e_var 0 rfl (.inl rfl)) (a_cons (e_cls rfl T.g_InvalidLengths) a_nil))) (a_cons (e_callB ci cs rfl T.n_isinstance (by decide +kernel) (a_cons (e_var 0 rfl (.inl rfl)) (a_cons (e_cls rfl T.g_InvalidPlace) a_nil))) (a_cons (e_callB ci cs rfl T.n_isinstance (by decide +kernel) (a_cons (e_var 0 rfl (.inl rfl)) (a_cons (e_cls rfl T.g_InvalidShare) a_nil))) (a_cons (e_callB ci cs rfl T.n_isinstance (by decide +kernel) (a_cons (e_var 0 rfl (.inl rfl)) (a_cons (e_cls rfl T.g_InvalidStretch) a_nil))) (a_cons (e_callB ci cs rfl T.n_isinstance (by decide +kernel) (a_cons (e_var 0 rfl (.inl rfl)) (a_cons (e_cls rfl T.g_InvalidNumber) a_nil))) (a_cons (e_callB ci cs rfl T.n_isinstance (by decide +kernel) (a_cons (e_var 0 rfl (.inl rfl)) (a_cons (e_cls rfl T.g_InvalidAnswers) a_nil))) (a_cons (e_callB ci cs rfl T.n_isinstance (by decide +kernel) (a_cons (e_var 0 rfl (.inl rfl)) (a_cons (e_cls rfl T.g_NothingToUndo) a_nil))) (a_cons (e_callB ci cs rfl T.n_isinstance (by decide +kernel) (a_cons (e_var 0 rfl (.inl rfl)) (a_cons (e_cls rfl T.g_InvalidText) a_nil))) (a_cons (e_callB ci cs rfl T.n_isinstance (by decide +kernel) (a_cons (e_var 0 rfl (.inl rfl)) (a_cons (e_ty rfl T.n_ValueError (by decide +kernel)) a_nil))) a_nil)))))))))))))
    (ss_cons (s_set (i := 2) nd rfl (.inl rfl) (e_vdat e_str))
    (ss_one (s_ret (e_vdat (e_join e_str (e_frz (v_lcH (own := [("word", 3), ("good", 4)]) hot nd (i_zipH rfl T.n_zip (a_cons (e_split (e_var 2 rfl (.inl rfl)) e_str) (a_cons (e_var 1 rfl (.inl rfl)) a_nil))) (blkOk_by (N := N_law_names) (sc := defScope st_law_names) (by decide +kernel)) (by decide) (fun p2 _ _ _ _ _ ph => (g_tpH ⟨p2, ph, List.mem_cons_self⟩ (gs_cons (g_nm (i := 3) nd rfl (.inl rfl)) (gs_cons (g_nm (i := 4) nd rfl (.inl rfl)) gs_nil)))) (fun p2 _ _ _ _ _ ph => (ts_one (t_val (e_var 4 rfl (.inl rfl))))) (fun p2 _ _ _ _ _ ph => (e_var 3 rfl (.inl rfl)))))))))))
theorem ok_is_whole (T : T K mg) : FnOk P w K mg base (L2N.CX P w) 1 (He.ga K "is_whole") T.fd_is_whole ["value", "low", "high"] (spOf K mg f_is_whole) := by
  refine fn_ok T.F_is_whole sc_is_whole (by decide) (fun ρ _ => rfl) fun cdv A outer s H E hr => ?_
  have tk : L2N.Takes (cxOf (L2N.CX P w) P w K mg base N_is_whole "is_whole" (defScope st_is_whole) (He.ga K "is_whole") cdv A outer s H E) (fun cls d _ H => E cls d H) := L2N.takes_of rfl rfl rfl rfl
  have px := L2N.passes_call tk (fun _ _ _ _ h => h)
  have pw : PassesOwn (model P w) (cxOf (L2N.CX P w) P w K mg base N_is_whole "is_whole" (defScope st_is_whole) (He.ga K "is_whole") cdv A outer s H E).A (cxOf (L2N.CX P w) P w K mg base N_is_whole "is_whole" (defScope st_is_whole) (He.ga K "is_whole") cdv A outer s H E).env (cxOf (L2N.CX P w) P w K mg base N_is_whole "is_whole" (defScope st_is_whole) (He.ga K "is_whole") cdv A outer s H E).xe := passes_of rfl
  have nd : N_is_whole.Nodup := sc_is_whole.nd
  have hu := hr.eqRoom
  have hr : L2.Room (0) _ := hr
  exact (ss_one (s_ret (e_vdat (e_and (e_callB call_isi c_isi rfl T.n_isinstance (by decide +kernel) (a_cons (e_var 0 rfl (.inl rfl)) (a_cons (e_ty rfl T.n_int (by decide +kernel)) a_nil))) (e_and (e_not (e_callB call_isi c_isi rfl T.n_isinstance (by decide +kernel) (a_cons (e_var 0 rfl (.inl rfl)) (a_cons (e_ty rfl T.n_bool (by decide +kernel)) a_nil)))) (e_one (e_chain op_le sem_le op_le sem_le (e_var 1 rfl (.inl rfl)) (e_var 0 rfl (.inl rfl)) (e_var 2 rfl (.inl rfl)))))))))
theorem ok_is_word (T : T K mg) : FnOk P w K mg base (L2N.CX P w) 1 (He.ga K "is_word") T.fd_is_word ["value", "words"] (spOf K mg f_is_word) := by
  refine fn_ok T.F_is_word sc_is_word (by decide) (fun ρ _ => rfl) fun cdv A outer s H E hr => ?_
  have tk : L2N.Takes (cxOf (L2N.CX P w) P w K mg base N_is_word "is_word" (defScope st_is_word) (He.ga K "is_word") cdv A outer s H E) (fun cls d _ H => E cls d H) := L2N.takes_of rfl rfl rfl rfl
  have px := L2N.passes_call tk (fun _ _ _ _ h => h)
  have pw : PassesOwn (model P w) (cxOf (L2N.CX P w) P w K mg base N_is_word "is_word" (defScope st_is_word) (He.ga K "is_word") cdv A outer s H E).A (cxOf (L2N.CX P w) P w K mg base N_is_word "is_word" (defScope st_is_word) (He.ga K "is_word") cdv A outer s H E).env (cxOf (L2N.CX P w) P w K mg base N_is_word "is_word" (defScope st_is_word) (He.ga K "is_word") cdv A outer s H E).xe := passes_of rfl
  have nd : N_is_word.Nodup := sc_is_word.nd
  have hu := hr.eqRoom
  have hr : L2.Room (0) _ := hr
  exact (ss_one (s_ret (e_vdat (e_and (e_callB call_isi c_isi rfl T.n_isinstance (by decide +kernel) (a_cons (e_var 0 rfl (.inl rfl)) (a_cons (e_ty rfl T.n_str (by decide +kernel)) a_nil))) (e_one (e_cmp op_in_seq (sem_in false) (e_var 0 rfl (.inl rfl)) (e_var 1 rfl (.inl rfl)) (by with_unfolding_all rfl)))))))
theorem ok_are_places (T : T K mg) : FnOk P w K mg base (L2N.CX P w) 2 (He.ga K "are_places") T.fd_are_places ["one", "other"] (spOf K mg f_are_places) := by
  have G_is_word := ok_is_word (P := P) (w := w) (base := base) T
  refine fn_ok T.F_are_places sc_are_places (by decide) (fun ρ _ => rfl) fun cdv A outer s H E hr => ?_
  have tk : L2N.Takes (cxOf (L2N.CX P w) P w K mg base N_are_places "are_places" (defScope st_are_places) (He.ga K "are_places") cdv A outer s H E) (fun cls d _ H => E cls d H) := L2N.takes_of rfl rfl rfl rfl
  have px := L2N.passes_call tk (fun _ _ _ _ h => h)
  have pw : PassesOwn (model P w) (cxOf (L2N.CX P w) P w K mg base N_are_places "are_places" (defScope st_are_places) (He.ga K "are_places") cdv A outer s H E).A (cxOf (L2N.CX P w) P w K mg base N_are_places "are_places" (defScope st_are_places) (He.ga K "are_places") cdv A outer s H E).env (cxOf (L2N.CX P w) P w K mg base N_are_places "are_places" (defScope st_are_places) (He.ga K "are_places") cdv A outer s H E).xe := passes_of rfl
  have nd : N_are_places.Nodup := sc_are_places.nd
  have hu := hr.eqRoom
  have hr : L2.Room (1) _ := hr
  exact (ss_one (s_ret (e_vdat (e_and (e_frz (v_call G_is_word (hr.mono (by omega)) rfl T.g_is_word T.F_is_word.kp T.b_is_word px (g_d (e_var 0 rfl (.inl rfl)) (g_d (e_const T.c_PLACES) g_nil)))) (e_and (e_frz (v_call G_is_word (hr.mono (by omega)) rfl T.g_is_word T.F_is_word.kp T.b_is_word px (g_d (e_var 1 rfl (.inl rfl)) (g_d (e_const T.c_PLACES) g_nil)))) (e_one (e_cmp (op_neM hu) sem_ne (e_var 0 rfl (.inl rfl)) (e_var 1 rfl (.inl rfl)) (nomark _))))))))
theorem ok_is_test (T : T K mg) : FnOk P w K mg base (L2N.CX P w) 3 (He.ga K "is_test") T.fd_is_test ["value"] (spOf K mg f_is_test) := by
  have G_are_places := ok_are_places (P := P) (w := w) (base := base) T
  have G_is_word := ok_is_word (P := P) (w := w) (base := base) T
  refine fn_ok T.F_is_test sc_is_test (by decide) (fun ρ _ => rfl) fun cdv A outer s H E hr => ?_
  have tk : L2N.Takes (cxOf (L2N.CX P w) P w K mg base N_is_test "is_test" (defScope st_is_test) (He.ga K "is_test") cdv A outer s H E) (fun cls d _ H => E cls d H) := L2N.takes_of rfl rfl rfl rfl
  have px := L2N.passes_call tk (fun _ _ _ _ h => h)
  have pw : PassesOwn (model P w) (cxOf (L2N.CX P w) P w K mg base N_is_test "is_test" (defScope st_is_test) (He.ga K "is_test") cdv A outer s H E).A (cxOf (L2N.CX P w) P w K mg base N_is_test "is_test" (defScope st_is_test) (He.ga K "is_test") cdv A outer s H E).env (cxOf (L2N.CX P w) P w K mg base N_is_test "is_test" (defScope st_is_test) (He.ga K "is_test") cdv A outer s H E).xe := passes_of rfl
  have nd : N_is_test.Nodup := sc_is_test.nd
  have hu := hr.eqRoom
  have hr : L2.Room (2) _ := hr
  exact (ss_cons (s_if (PW.pt (w_or (t_not (t_val (e_callB call_isi c_isi rfl T.n_isinstance (by decide +kernel) (a_cons (e_var 0 rfl (.inl rfl)) (a_cons (e_ty rfl T.n_tuple (by decide +kernel)) a_nil))))) (w_or (t_cmp (op_neM hu) sem_ne (e_callB call_len c_len rfl T.n_len (by decide +kernel) (a_cons (e_var 0 rfl (.inl rfl)) a_nil)) e_int (nomark _)) (w_oneO (t_not (t_val (e_frz (v_call G_is_word (hr.mono (by omega)) rfl T.g_is_word T.F_is_word.kp T.b_is_word px (g_d (e_ix ix_all sem_ix (e_var 0 rfl (.inl rfl)) e_int (fun _ _ => rfl)) (g_d (e_tup (a_cons e_str (a_cons e_str a_nil))) g_nil)))))))))) (ss_one (s_ret (e_vdat e_bl))) ss_nil)
    (ss_one (s_ret (v_call G_are_places (hr.mono (by omega)) rfl T.g_are_places T.F_are_places.kp T.b_are_places px (g_d (e_ix ix_all sem_ix (e_var 0 rfl (.inl rfl)) e_int (fun _ _ => rfl)) (g_d (e_ix ix_all sem_ix (e_var 0 rfl (.inl rfl)) e_int (fun _ _ => rfl)) g_nil))))))
theorem ok_is_plain (T : T K mg) : FnOk P w K mg base (L2N.CX P w) 3 (He.ga K "is_plain") T.fd_is_plain ["value"] (spOf K mg f_is_plain) := by
  have G_are_places := ok_are_places (P := P) (w := w) (base := base) T
  have G_is_whole := ok_is_whole (P := P) (w := w) (base := base) T
  have G_is_word := ok_is_word (P := P) (w := w) (base := base) T
  refine fn_ok T.F_is_plain sc_is_plain (by decide) (fun ρ _ => rfl) fun cdv A outer s H E hr => ?_
  have tk : L2N.Takes (cxOf (L2N.CX P w) P w K mg base N_is_plain "is_plain" (defScope st_is_plain) (He.ga K "is_plain") cdv A outer s H E) (fun cls d _ H => E cls d H) := L2N.takes_of rfl rfl rfl rfl
  have px := L2N.passes_call tk (fun _ _ _ _ h => h)
  have pw : PassesOwn (model P w) (cxOf (L2N.CX P w) P w K mg base N_is_plain "is_plain" (defScope st_is_plain) (He.ga K "is_plain") cdv A outer s H E).A (cxOf (L2N.CX P w) P w K mg base N_is_plain "is_plain" (defScope st_is_plain) (He.ga K "is_plain") cdv A outer s H E).env (cxOf (L2N.CX P w) P w K mg base N_is_plain "is_plain" (defScope st_is_plain) (He.ga K "is_plain") cdv A outer s H E).xe := passes_of rfl
  have nd : N_is_plain.Nodup := sc_is_plain.nd
  have hu := hr.eqRoom
  have hr : L2.Room (2) _ := hr
  exact (ss_cons (s_if (PW.pt (w_or (t_not (t_val (e_callB call_isi c_isi rfl T.n_isinstance (by decide +kernel) (a_cons (e_var 0 rfl (.inl rfl)) (a_cons (e_ty rfl T.n_tuple (by decide +kernel)) a_nil))))) (w_or (t_cmp (op_neM hu) sem_ne (e_callB call_len c_len rfl T.n_len (by decide +kernel) (a_cons (e_var 0 rfl (.inl rfl)) a_nil)) e_int (nomark _)) (w_oneO (t_not (t_val (e_callB call_isi c_isi rfl T.n_isinstance (by decide +kernel) (a_cons (e_ix ix_all sem_ix (e_var 0 rfl (.inl rfl)) e_int (fun _ _ => rfl)) (a_cons (e_ty rfl T.n_str (by decide +kernel)) a_nil))))))))) (ss_one (s_ret (e_vdat e_bl))) ss_nil)
    (ss_cons (s_if (t_cmp (op_eqM hu) sem_eq (e_ix ix_all sem_ix (e_var 0 rfl (.inl rfl)) e_int (fun _ _ => rfl)) e_str (nomark _)) (ss_one (s_ret (e_vdat (e_and (e_frz (v_call G_is_word (hr.mono (by omega)) rfl T.g_is_word T.F_is_word.kp T.b_is_word px (g_d (e_ix ix_all sem_ix (e_var 0 rfl (.inl rfl)) e_int (fun _ _ => rfl)) (g_d (e_const T.c_PLACES) g_nil)))) (e_one (e_frz (v_call G_is_whole (hr.mono (by omega)) rfl T.g_is_whole T.F_is_whole.kp T.b_is_whole px (g_d (e_ix ix_all sem_ix (e_var 0 rfl (.inl rfl)) e_int (fun _ _ => rfl)) (g_d e_int (g_d e_int g_nil)))))))))) ss_nil)
    (ss_one (s_ret (e_vdat (e_and (e_cmp op_in_seq (sem_in false) (e_ix ix_all sem_ix (e_var 0 rfl (.inl rfl)) e_int (fun _ _ => rfl)) (e_tup (a_cons e_str (a_cons e_str (a_cons e_str a_nil)))) (by with_unfolding_all rfl)) (e_one (e_frz (v_call G_are_places (hr.mono (by omega)) rfl T.g_are_places T.F_are_places.kp T.b_are_places px (g_d (e_ix ix_all sem_ix (e_var 0 rfl (.inl rfl)) e_int (fun _ _ => rfl)) (g_d (e_ix ix_all sem_ix (e_var 0 rfl (.inl rfl)) e_int (fun _ _ => rfl)) g_nil)))))))))))
theorem okr_is_statement_is_body (T : T K mg) : ∀ k, FnOk P w K mg base (L2N.CX P w) (3 + k) (He.ga K "is_statement") T.fd_is_statement ["value", "deep"] (spOf K mg (f_is_statement k)) ∧ FnOk P w K mg base (L2N.CX P w) (3 + k) (He.ga K "is_body") T.fd_is_body ["value", "deep"] (spOf K mg (f_is_body k))
  | 0 => ⟨fn_bad, fn_bad⟩
  | k + 1 => by
    have G_is_plain := ok_is_plain (P := P) (w := w) (base := base) T
    have G_is_test := ok_is_test (P := P) (w := w) (base := base) T
    have G_is_word := ok_is_word (P := P) (w := w) (base := base) T
    obtain ⟨G_is_statement, G_is_body⟩ := okr_is_statement_is_body T k
    refine ⟨?_, ?_⟩
    · refine fn_ok T.F_is_statement sc_is_statement (by decide) (fun ρ _ => rfl) fun cdv A outer s H E hr => ?_
      have tk : L2N.Takes (cxOf (L2N.CX P w) P w K mg base N_is_statement "is_statement" (defScope st_is_statement) (He.ga K "is_statement") cdv A outer s H E) (fun cls d _ H => E cls d H) := L2N.takes_of rfl rfl rfl rfl
      have px := L2N.passes_call tk (fun _ _ _ _ h => h)
      have pw : PassesOwn (model P w) (cxOf (L2N.CX P w) P w K mg base N_is_statement "is_statement" (defScope st_is_statement) (He.ga K "is_statement") cdv A outer s H E).A (cxOf (L2N.CX P w) P w K mg base N_is_statement "is_statement" (defScope st_is_statement) (He.ga K "is_statement") cdv A outer s H E).env (cxOf (L2N.CX P w) P w K mg base N_is_statement "is_statement" (defScope st_is_statement) (He.ga K "is_statement") cdv A outer s H E).xe := passes_of rfl
      have nd : N_is_statement.Nodup := sc_is_statement.nd
      have hu := hr.eqRoom
      have hr : L2.Room (3 + k) _ := hr
      exact (ss_cons (s_if (PW.pt (w_or (t_not (t_val (e_callB call_isi c_isi rfl T.n_isinstance (by decide +kernel) (a_cons (e_var 0 rfl (.inl rfl)) (a_cons (e_ty rfl T.n_tuple (by decide +kernel)) a_nil))))) (w_or (t_cmp (op_neM hu) sem_ne (e_callB call_len c_len rfl T.n_len (by decide +kernel) (a_cons (e_var 0 rfl (.inl rfl)) a_nil)) e_int (nomark _)) (w_oneO (t_not (t_val (e_frz (v_call G_is_word (hr.mono (by omega)) rfl T.g_is_word T.F_is_word.kp T.b_is_word px (g_d (e_ix ix_all sem_ix (e_var 0 rfl (.inl rfl)) e_int (fun _ _ => rfl)) (g_d (e_tup (a_cons e_str a_nil)) g_nil)))))))))) (ss_one (s_ret (e_vdat (e_and (e_cmp op_gt sem_gt (e_var 1 rfl (.inl rfl)) e_int (nomark _)) (e_one (e_frz (v_call G_is_plain (hr.mono (by omega)) rfl T.g_is_plain T.F_is_plain.kp T.b_is_plain px (g_d (e_var 0 rfl (.inl rfl)) g_nil)))))))) ss_nil)
    (ss_cons (s_if (PW.pt (w_or (t_cmp (op_eqM hu) sem_eq (e_var 1 rfl (.inl rfl)) e_int (nomark _)) (w_oneO (t_not (t_val (e_frz (v_call G_is_test (hr.mono (by omega)) rfl T.g_is_test T.F_is_test.kp T.b_is_test px (g_d (e_ix ix_all sem_ix (e_var 0 rfl (.inl rfl)) e_int (fun _ _ => rfl)) g_nil)))))))) (ss_one (s_ret (e_vdat e_bl))) ss_nil)
    (ss_one (s_ret (e_vdat (e_and (e_frz (v_call G_is_body (hr.mono (by omega)) rfl T.g_is_body T.F_is_body.kp T.b_is_body px (g_d (e_ix ix_all sem_ix (e_var 0 rfl (.inl rfl)) e_int (fun _ _ => rfl)) (g_d (e_op op_sub sem_sub (e_var 1 rfl (.inl rfl)) e_int) g_nil)))) (e_one (e_frz (v_call G_is_body (hr.mono (by omega)) rfl T.g_is_body T.F_is_body.kp T.b_is_body px (g_d (e_ix ix_all sem_ix (e_var 0 rfl (.inl rfl)) e_int (fun _ _ => rfl)) (g_d (e_op op_sub sem_sub (e_var 1 rfl (.inl rfl)) e_int) g_nil)))))))))))
    · refine fn_ok T.F_is_body sc_is_body (by decide) (fun ρ _ => rfl) fun cdv A outer s H E hr => ?_
      have tk : L2N.Takes (cxOf (L2N.CX P w) P w K mg base N_is_body "is_body" (defScope st_is_body) (He.ga K "is_body") cdv A outer s H E) (fun cls d _ H => E cls d H) := L2N.takes_of rfl rfl rfl rfl
      have px := L2N.passes_call tk (fun _ _ _ _ h => h)
      have pw : PassesOwn (model P w) (cxOf (L2N.CX P w) P w K mg base N_is_body "is_body" (defScope st_is_body) (He.ga K "is_body") cdv A outer s H E).A (cxOf (L2N.CX P w) P w K mg base N_is_body "is_body" (defScope st_is_body) (He.ga K "is_body") cdv A outer s H E).env (cxOf (L2N.CX P w) P w K mg base N_is_body "is_body" (defScope st_is_body) (He.ga K "is_body") cdv A outer s H E).xe := passes_of rfl
      have nd : N_is_body.Nodup := sc_is_body.nd
      have hu := hr.eqRoom
      have hr : L2.Room (3 + k) _ := hr
      exact (ss_cons (s_if (PW.pt (w_or (t_not (t_val (e_callB call_isi c_isi rfl T.n_isinstance (by decide +kernel) (a_cons (e_var 0 rfl (.inl rfl)) (a_cons (e_ty rfl T.n_tuple (by decide +kernel)) a_nil))))) (w_oneO (t_cmp op_gt sem_gt (e_callB call_len c_len rfl T.n_len (by decide +kernel) (a_cons (e_var 0 rfl (.inl rfl)) a_nil)) e_int (nomark _))))) (ss_one (s_ret (e_vdat e_bl))) ss_nil)
    (ss_one (s_ret (e_vdat (e_cmp (op_eqM hu) sem_eq (e_frz (v_lc (own := [("statement", 2)]) rfl nd (i_tup (e_var 0 rfl (.inl rfl))) (blkOk_by (N := N_is_body) (sc := defScope st_is_body) (by decide +kernel)) (by decide) (fun _ _ _ _ _ => (g_nm (i := 2) nd rfl (.inl rfl))) (fun _ _ _ _ _ => (ts_one (t_not (t_val (e_frz (v_call G_is_statement (hr.mono (by omega)) rfl T.g_is_statement T.F_is_statement.kp T.b_is_statement passL (g_d (e_var 2 rfl (.inl rfl)) (g_d (e_var 1 rfl (.inr (.inl rfl))) g_nil)))))))) (fun _ _ _ _ _ => (e_var 2 rfl (.inl rfl))))) (e_lst a_nil) (nomark _))))))
theorem ok_is_statement (T : T K mg) (k : Nat) : FnOk P w K mg base (L2N.CX P w) (3 + k) (He.ga K "is_statement") T.fd_is_statement ["value", "deep"] (spOf K mg (f_is_statement k)) := (okr_is_statement_is_body T k).1
theorem ok_is_body (T : T K mg) (k : Nat) : FnOk P w K mg base (L2N.CX P w) (3 + k) (He.ga K "is_body") T.fd_is_body ["value", "deep"] (spOf K mg (f_is_body k)) := (okr_is_statement_is_body T k).2
theorem okr_size (T : T K mg) : ∀ k, FnOk P w K mg base (L2N.CX P w) (0 + k) (He.ga K "size") T.fd_size ["body"] (spOf K mg (f_size k))
  | 0 => fn_bad
  | k + 1 => by
    have G_size := okr_size T k
    refine fn_ok T.F_size sc_size (by decide) (fun ρ _ => rfl) fun cdv A outer s H E hr => ?_
    have tk : L2N.Takes (cxOf (L2N.CX P w) P w K mg base N_size "size" (defScope st_size) (He.ga K "size") cdv A outer s H E) (fun cls d _ H => E cls d H) := L2N.takes_of rfl rfl rfl rfl
    have px := L2N.passes_call tk (fun _ _ _ _ h => h)
    have pw : PassesOwn (model P w) (cxOf (L2N.CX P w) P w K mg base N_size "size" (defScope st_size) (He.ga K "size") cdv A outer s H E).A (cxOf (L2N.CX P w) P w K mg base N_size "size" (defScope st_size) (He.ga K "size") cdv A outer s H E).env (cxOf (L2N.CX P w) P w K mg base N_size "size" (defScope st_size) (He.ga K "size") cdv A outer s H E).xe := passes_of rfl
    have nd : N_size.Nodup := sc_size.nd
    have hu := hr.eqRoom
    have hr : L2.Room (0 + k) _ := hr
    exact (ss_cons (s_set (i := 1) nd rfl (.inl rfl) (e_vdat (e_callB call_len c_len rfl T.n_len (by decide +kernel) (a_cons (e_var 0 rfl (.inl rfl)) a_nil))))
    (ss_cons (s_for pw rfl (i_tup (e_var 0 rfl (.inl rfl))) (g_nm (i := 2) nd rfl (.inl rfl)) (ss_one (s_if (t_cmp (op_eqM hu) sem_eq (e_ix ix_all sem_ix (e_var 2 rfl (.inl rfl)) e_int (fun _ _ => rfl)) e_str (nomark _)) (ss_one (s_set (i := 1) nd rfl (.inl rfl) (e_vdat (e_op op_addD sem_add (e_op op_addD sem_add (e_var 1 rfl (.inl rfl)) (e_frz (v_call G_size (hr.mono (by omega)) rfl T.g_size T.F_size.kp T.b_size px (g_d (e_ix ix_all sem_ix (e_var 2 rfl (.inl rfl)) e_int (fun _ _ => rfl)) g_nil)))) (e_frz (v_call G_size (hr.mono (by omega)) rfl T.g_size T.F_size.kp T.b_size px (g_d (e_ix ix_all sem_ix (e_var 2 rfl (.inl rfl)) e_int (fun _ _ => rfl)) g_nil))))))) ss_nil)))
    (ss_one (s_ret (e_vdat (e_var 1 rfl (.inl rfl)))))))
theorem ok_size (T : T K mg) (k : Nat) : FnOk P w K mg base (L2N.CX P w) (0 + k) (He.ga K "size") T.fd_size ["body"] (spOf K mg (f_size k)) := okr_size T k
theorem ok_is_script (T : T K mg) : FnOk P w K mg base (L2N.CX P w) 16 (He.ga K "is_script") T.fd_is_script ["value"] (spOf K mg f_is_script) := by
  have G_is_body := ok_is_body (P := P) (w := w) (base := base) T 12
  have G_size := ok_size (P := P) (w := w) (base := base) T 8
  refine fn_ok T.F_is_script sc_is_script (by decide) (fun ρ _ => rfl) fun cdv A outer s H E hr => ?_
  have tk : L2N.Takes (cxOf (L2N.CX P w) P w K mg base N_is_script "is_script" (defScope st_is_script) (He.ga K "is_script") cdv A outer s H E) (fun cls d _ H => E cls d H) := L2N.takes_of rfl rfl rfl rfl
  have px := L2N.passes_call tk (fun _ _ _ _ h => h)
  have pw : PassesOwn (model P w) (cxOf (L2N.CX P w) P w K mg base N_is_script "is_script" (defScope st_is_script) (He.ga K "is_script") cdv A outer s H E).A (cxOf (L2N.CX P w) P w K mg base N_is_script "is_script" (defScope st_is_script) (He.ga K "is_script") cdv A outer s H E).env (cxOf (L2N.CX P w) P w K mg base N_is_script "is_script" (defScope st_is_script) (He.ga K "is_script") cdv A outer s H E).xe := passes_of rfl
  have nd : N_is_script.Nodup := sc_is_script.nd
  have hu := hr.eqRoom
  have hr : L2.Room (15) _ := hr
  exact (ss_one (s_ret (e_vdat (e_and (e_frz (v_call G_is_body (hr.mono (by omega)) rfl T.g_is_body T.F_is_body.kp T.b_is_body px (g_d (e_var 0 rfl (.inl rfl)) (g_d (e_const T.c_DEEPEST) g_nil)))) (e_one (e_cmp op_le sem_le (e_frz (v_call G_size (hr.mono (by omega)) rfl T.g_size T.F_size.kp T.b_size px (g_d (e_var 0 rfl (.inl rfl)) g_nil))) (e_const T.c_MOST_STATEMENTS) (nomark _)))))))
theorem ok_need_script (T : T K mg) : FnOk P w K mg base (L2N.CX P w) 17 (He.ga K "need_script") T.fd_need_script ["script"] (spOf K mg f_need_script) := by
  have G_is_script := ok_is_script (P := P) (w := w) (base := base) T
  refine fn_ok T.F_need_script sc_need_script (by decide) (fun ρ _ => rfl) fun cdv A outer s H E hr => ?_
  have tk : L2N.Takes (cxOf (L2N.CX P w) P w K mg base N_need_script "need_script" (defScope st_need_script) (He.ga K "need_script") cdv A outer s H E) (fun cls d _ H => E cls d H) := L2N.takes_of rfl rfl rfl rfl
  have px := L2N.passes_call tk (fun _ _ _ _ h => h)
  have pw : PassesOwn (model P w) (cxOf (L2N.CX P w) P w K mg base N_need_script "need_script" (defScope st_need_script) (He.ga K "need_script") cdv A outer s H E).A (cxOf (L2N.CX P w) P w K mg base N_need_script "need_script" (defScope st_need_script) (He.ga K "need_script") cdv A outer s H E).env (cxOf (L2N.CX P w) P w K mg base N_need_script "need_script" (defScope st_need_script) (He.ga K "need_script") cdv A outer s H E).xe := passes_of rfl
  have nd : N_need_script.Nodup := sc_need_script.nd
  have hu := hr.eqRoom
  have hr : L2.Room (16) _ := hr
  exact (ss_one (s_if (t_not (t_val (e_frz (v_call G_is_script (hr.mono (by omega)) rfl T.g_is_script T.F_is_script.kp T.b_is_script px (g_d (e_var 0 rfl (.inl rfl)) g_nil))))) (ss_one (s_raise rfl tk PySem.F.excBase_ValueError T.x_InvalidScript.1 T.g_InvalidScript T.x_InvalidScript.2.1 (raises_own T.x_InvalidScript.2.2.1 T.x_InvalidScript.2.2.2) rfl)) ss_nil))
theorem ok_need_number (T : T K mg) : FnOk P w K mg base (L2N.CX P w) 2 (He.ga K "need_number") T.fd_need_number ["number", "low", "high"] (spOf K mg f_need_number) := by
  have G_is_whole := ok_is_whole (P := P) (w := w) (base := base) T
  refine fn_ok T.F_need_number sc_need_number (by decide) (fun ρ _ => rfl) fun cdv A outer s H E hr => ?_
  have tk : L2N.Takes (cxOf (L2N.CX P w) P w K mg base N_need_number "need_number" (defScope st_need_number) (He.ga K "need_number") cdv A outer s H E) (fun cls d _ H => E cls d H) := L2N.takes_of rfl rfl rfl rfl
  have px := L2N.passes_call tk (fun _ _ _ _ h => h)
  have pw : PassesOwn (model P w) (cxOf (L2N.CX P w) P w K mg base N_need_number "need_number" (defScope st_need_number) (He.ga K "need_number") cdv A outer s H E).A (cxOf (L2N.CX P w) P w K mg base N_need_number "need_number" (defScope st_need_number) (He.ga K "need_number") cdv A outer s H E).env (cxOf (L2N.CX P w) P w K mg base N_need_number "need_number" (defScope st_need_number) (He.ga K "need_number") cdv A outer s H E).xe := passes_of rfl
  have nd : N_need_number.Nodup := sc_need_number.nd
  have hu := hr.eqRoom
  have hr : L2.Room (1) _ := hr
  exact (ss_one (s_if (t_not (t_val (e_frz (v_call G_is_whole (hr.mono (by omega)) rfl T.g_is_whole T.F_is_whole.kp T.b_is_whole px (g_d (e_var 0 rfl (.inl rfl)) (g_d (e_var 1 rfl (.inl rfl)) (g_d (e_var 2 rfl (.inl rfl)) g_nil))))))) (ss_one (s_raise rfl tk PySem.F.excBase_ValueError T.x_InvalidNumber.1 T.g_InvalidNumber T.x_InvalidNumber.2.1 (raises_own T.x_InvalidNumber.2.2.1 T.x_InvalidNumber.2.2.2) rfl)) ss_nil))
theorem okr_cut_out (T : T K mg) : ∀ k, FnOk P w K mg base (L2N.CX P w) (8 + k) (He.ga K "cut_out") T.fd_cut_out ["body", "first", "number"] (spOf K mg (f_cut_out k))
  | 0 => fn_bad
  | k + 1 => by
    have G_size := ok_size (P := P) (w := w) (base := base) T 8
    have G_cut_out := okr_cut_out T k
    refine fn_ok T.F_cut_out sc_cut_out (by decide) (fun ρ _ => rfl) fun cdv A outer s H E hr => ?_
    have tk : L2N.Takes (cxOf (L2N.CX P w) P w K mg base N_cut_out "cut_out" (defScope st_cut_out) (He.ga K "cut_out") cdv A outer s H E) (fun cls d _ H => E cls d H) := L2N.takes_of rfl rfl rfl rfl
    have px := L2N.passes_call tk (fun _ _ _ _ h => h)
    have pw : PassesOwn (model P w) (cxOf (L2N.CX P w) P w K mg base N_cut_out "cut_out" (defScope st_cut_out) (He.ga K "cut_out") cdv A outer s H E).A (cxOf (L2N.CX P w) P w K mg base N_cut_out "cut_out" (defScope st_cut_out) (He.ga K "cut_out") cdv A outer s H E).env (cxOf (L2N.CX P w) P w K mg base N_cut_out "cut_out" (defScope st_cut_out) (He.ga K "cut_out") cdv A outer s H E).xe := passes_of rfl
    have nd : N_cut_out.Nodup := sc_cut_out.nd
    have hu := hr.eqRoom
    have hr : L2.Room (8 + k) _ := hr
    exact (ss_cons (s_set (i := 3) nd rfl (.inl rfl) (e_vdat (e_tup a_nil)))
    (ss_cons (s_for pw rfl (i_tup (e_var 0 rfl (.inl rfl))) (g_nm (i := 4) nd rfl (.inl rfl)) (ss_cons (s_set (i := 5) nd rfl (.inl rfl) (e_vdat (e_var 4 rfl (.inl rfl))))
    (ss_cons (s_if (t_cmp (op_eqM hu) sem_eq (e_ix ix_all sem_ix (e_var 4 rfl (.inl rfl)) e_int (fun _ _ => rfl)) e_str (nomark _)) (ss_cons (s_set (i := 6) nd rfl (.inl rfl) (v_call G_cut_out (hr.mono (by omega)) rfl T.g_cut_out T.F_cut_out.kp T.b_cut_out px (g_d (e_ix ix_all sem_ix (e_var 4 rfl (.inl rfl)) e_int (fun _ _ => rfl)) (g_d (e_op op_addD sem_add (e_var 1 rfl (.inl rfl)) e_int) (g_d (e_var 2 rfl (.inl rfl)) g_nil)))))
    (ss_cons (s_set (i := 7) nd rfl (.inl rfl) (v_call G_cut_out (hr.mono (by omega)) rfl T.g_cut_out T.F_cut_out.kp T.b_cut_out px (g_d (e_ix ix_all sem_ix (e_var 4 rfl (.inl rfl)) e_int (fun _ _ => rfl)) (g_d (e_op op_addD sem_add (e_op op_addD sem_add (e_var 1 rfl (.inl rfl)) e_int) (e_frz (v_call G_size (hr.mono (by omega)) rfl T.g_size T.F_size.kp T.b_size px (g_d (e_ix ix_all sem_ix (e_var 4 rfl (.inl rfl)) e_int (fun _ _ => rfl)) g_nil)))) (g_d (e_var 2 rfl (.inl rfl)) g_nil)))))
    (ss_one (s_set (i := 5) nd rfl (.inl rfl) (e_vdat (e_tup (a_cons e_str (a_cons (e_ix ix_all sem_ix (e_var 4 rfl (.inl rfl)) e_int (fun _ _ => rfl)) (a_cons (e_var 6 rfl (.inl rfl)) (a_cons (e_var 7 rfl (.inl rfl)) a_nil)))))))))) ss_nil)
    (ss_cons (s_if (t_cmp (op_neM hu) sem_ne (e_var 1 rfl (.inl rfl)) (e_var 2 rfl (.inl rfl)) (nomark _)) (ss_one (s_set (i := 3) nd rfl (.inl rfl) (e_vdat (e_op op_addD sem_add (e_var 3 rfl (.inl rfl)) (e_tup (a_cons (e_var 5 rfl (.inl rfl)) a_nil)))))) ss_nil)
    (ss_one (s_set (i := 1) nd rfl (.inl rfl) (e_vdat (e_op op_addD sem_add (e_var 1 rfl (.inl rfl)) (e_frz (v_call G_size (hr.mono (by omega)) rfl T.g_size T.F_size.kp T.b_size px (g_d (e_tup (a_cons (e_var 4 rfl (.inl rfl)) a_nil)) g_nil)))))))))))
    (ss_one (s_ret (e_vdat (e_var 3 rfl (.inl rfl)))))))
theorem ok_cut_out (T : T K mg) (k : Nat) : FnOk P w K mg base (L2N.CX P w) (8 + k) (He.ga K "cut_out") T.fd_cut_out ["body", "first", "number"] (spOf K mg (f_cut_out k)) := okr_cut_out T k
theorem ok_without (T : T K mg) : FnOk P w K mg base (L2N.CX P w) 18 (He.ga K "without") T.fd_without ["script", "number"] (spOf K mg f_without) := by
  have G_cut_out := ok_cut_out (P := P) (w := w) (base := base) T 8
  have G_need_number := ok_need_number (P := P) (w := w) (base := base) T
  have G_need_script := ok_need_script (P := P) (w := w) (base := base) T
  have G_size := ok_size (P := P) (w := w) (base := base) T 8
  refine fn_ok T.F_without sc_without (by decide) (fun ρ _ => rfl) fun cdv A outer s H E hr => ?_
  have tk : L2N.Takes (cxOf (L2N.CX P w) P w K mg base N_without "without" (defScope st_without) (He.ga K "without") cdv A outer s H E) (fun cls d _ H => E cls d H) := L2N.takes_of rfl rfl rfl rfl
  have px := L2N.passes_call tk (fun _ _ _ _ h => h)
  have pw : PassesOwn (model P w) (cxOf (L2N.CX P w) P w K mg base N_without "without" (defScope st_without) (He.ga K "without") cdv A outer s H E).A (cxOf (L2N.CX P w) P w K mg base N_without "without" (defScope st_without) (He.ga K "without") cdv A outer s H E).env (cxOf (L2N.CX P w) P w K mg base N_without "without" (defScope st_without) (He.ga K "without") cdv A outer s H E).xe := passes_of rfl
  have nd : N_without.Nodup := sc_without.nd
  have hu := hr.eqRoom
  have hr : L2.Room (17) _ := hr
  exact (ss_cons (s_expr (v_call G_need_script (hr.mono (by omega)) rfl T.g_need_script T.F_need_script.kp T.b_need_script px (g_d (e_var 0 rfl (.inl rfl)) g_nil)))
    (ss_cons (s_expr (v_call G_need_number (hr.mono (by omega)) rfl T.g_need_number T.F_need_number.kp T.b_need_number px (g_d (e_var 1 rfl (.inl rfl)) (g_d e_int (g_d (e_op op_sub sem_sub (e_frz (v_call G_size (hr.mono (by omega)) rfl T.g_size T.F_size.kp T.b_size px (g_d (e_var 0 rfl (.inl rfl)) g_nil))) e_int) g_nil)))))
    (ss_one (s_ret (v_call G_cut_out (hr.mono (by omega)) rfl T.g_cut_out T.F_cut_out.kp T.b_cut_out px (g_d (e_var 0 rfl (.inl rfl)) (g_d e_int (g_d (e_var 1 rfl (.inl rfl)) g_nil))))))))
theorem ok_law_vat (T : T K mg) : FnOk P w K mg base (L2N.CX P w) 1 (He.ga K "_law_vat") T.fd_law_vat ["script", "k"] (spOf K mg f_law_vat) := by
  refine fn_ok T.F_law_vat sc_law_vat (by decide) (fun ρ _ => rfl) fun cdv A outer s H E hr => ?_
  have tk : L2N.Takes (cxOf (L2N.CX P w) P w K mg base N_law_vat "_law_vat" (defScope st_law_vat) (He.ga K "_law_vat") cdv A outer s H E) (fun cls d _ H => E cls d H) := L2N.takes_of rfl rfl rfl rfl
  have px := L2N.passes_call tk (fun _ _ _ _ h => h)
  have pw : PassesOwn (model P w) (cxOf (L2N.CX P w) P w K mg base N_law_vat "_law_vat" (defScope st_law_vat) (He.ga K "_law_vat") cdv A outer s H E).A (cxOf (L2N.CX P w) P w K mg base N_law_vat "_law_vat" (defScope st_law_vat) (He.ga K "_law_vat") cdv A outer s H E).env (cxOf (L2N.CX P w) P w K mg base N_law_vat "_law_vat" (defScope st_law_vat) (He.ga K "_law_vat") cdv A outer s H E).xe := passes_of rfl
  have nd : N_law_vat.Nodup := sc_law_vat.nd
  have hu := hr.eqRoom
  have hr : L2.Room (0) _ := hr
  exact (ss_cons (s_set (i := 2) nd rfl (.inl rfl) (e_vdat (e_op op_addD sem_add (e_op op_mulD sem_mul e_int (e_var 1 rfl (.inl rfl))) e_int)))
    (ss_cons (s_if (t_cmp op_lt sem_lt (e_var 1 rfl (.inl rfl)) (e_callB call_len c_len rfl T.n_len (by decide +kernel) (a_cons (e_var 0 rfl (.inl rfl)) a_nil)) (nomark _)) (ss_one (s_set (i := 2) nd rfl (.inl rfl) (e_vdat (e_callB call_abs c_abs rfl T.n_abs (by decide +kernel) (a_cons (e_callTy call_int1 c_int rfl T.n_int (by decide +kernel) (a_cons (e_ix ix_all sem_ix (e_var 0 rfl (.inl rfl)) (e_var 1 rfl (.inl rfl)) (fun _ _ => rfl)) a_nil)) a_nil))))) ss_nil)
    (ss_one (s_ret (v_lst (a_cons (e_if (t_cmp op_ge sem_ge (e_var 2 rfl (.inl rfl)) (e_op op_pow sem_pow e_int e_int) (nomark _)) (e_var 2 rfl (.inl rfl)) e_int) (a_cons (e_op op_addD sem_add (e_op op_modN sem_mod (e_callTy call_int1 c_int rfl T.n_int (by decide +kernel) (a_cons (e_op op_addD sem_add (e_op op_addD sem_add (e_op op_mulD sem_mul (e_var 2 rfl (.inl rfl)) e_int) (e_op op_mulD sem_mul e_int (e_var 1 rfl (.inl rfl)))) e_int) a_nil)) e_int) e_int) a_nil)))))))
theorem ok_law_under (T : T K mg) : FnOk P w K mg base (L2N.CX P w) 1 (He.ga K "_law_under") T.fd_law_under ["vat", "many"] (spOf K mg f_law_under) := by
  refine fn_ok T.F_law_under sc_law_under (by decide) (fun ρ _ => rfl) fun cdv A outer s H E hr => ?_
  have tk : L2N.Takes (cxOf (L2N.CX P w) P w K mg base N_law_under "_law_under" (defScope st_law_under) (He.ga K "_law_under") cdv A outer s H E) (fun cls d _ H => E cls d H) := L2N.takes_of rfl rfl rfl rfl
  have px := L2N.passes_call tk (fun _ _ _ _ h => h)
  have pw : PassesOwn (model P w) (cxOf (L2N.CX P w) P w K mg base N_law_under "_law_under" (defScope st_law_under) (He.ga K "_law_under") cdv A outer s H E).A (cxOf (L2N.CX P w) P w K mg base N_law_under "_law_under" (defScope st_law_under) (He.ga K "_law_under") cdv A outer s H E).env (cxOf (L2N.CX P w) P w K mg base N_law_under "_law_under" (defScope st_law_under) (He.ga K "_law_under") cdv A outer s H E).xe := passes_of rfl
  have nd : N_law_under.Nodup := sc_law_under.nd
  have hu := hr.eqRoom
  have hr : L2.Room (0) _ := hr
  exact (ss_cons (s_if (t_cmp op_gt sem_gt (e_ixO 0 rfl (.inl rfl) e_int (fun _ _ => rfl)) e_int (nomark _)) (ss_cons (s_set (i := 2) nd rfl (.inl rfl) (e_vdat (e_op op_modN sem_mod (e_callTy call_int1 c_int rfl T.n_int (by decide +kernel) (a_cons (e_ixO 0 rfl (.inl rfl) e_int (fun _ _ => rfl)) a_nil)) (e_var 1 rfl (.inl rfl)))))
    (ss_cons (s_setI 0 rfl (.inl rfl) (e_op op_fdivD sem_fdiv (e_ixO 0 rfl (.inl rfl) e_int (fun _ _ => rfl)) (e_var 1 rfl (.inl rfl))) e_int)
    (ss_one (s_ret (e_vdat (e_var 2 rfl (.inl rfl))))))) ss_nil)
    (ss_cons (s_setI 0 rfl (.inl rfl) (e_op op_modN sem_mod (e_callTy call_int1 c_int rfl T.n_int (by decide +kernel) (a_cons (e_op op_addD sem_add (e_op op_mulD sem_mul (e_ixO 0 rfl (.inl rfl) e_int (fun _ _ => rfl)) e_int) e_int) a_nil)) e_int) e_int)
    (ss_cons (s_set (i := 3) nd rfl (.inl rfl) (e_vdat (e_op op_modN sem_mod (e_callTy call_int1 c_int rfl T.n_int (by decide +kernel) (a_cons (e_op op_mulD sem_mul (e_ixO 0 rfl (.inl rfl) e_int (fun _ _ => rfl)) (e_op op_addD sem_add (e_op op_fdivD sem_fdiv (e_ixO 0 rfl (.inl rfl) e_int (fun _ _ => rfl)) e_int) e_int)) a_nil)) e_int)))
    (ss_one (s_ret (e_vdat (e_op op_modN sem_mod (e_callTy call_int1 c_int rfl T.n_int (by decide +kernel) (a_cons (e_op op_fdivD sem_fdiv (e_var 3 rfl (.inl rfl)) e_int) a_nil)) (e_var 1 rfl (.inl rfl)))))))))
theorem ok_law_some (T : T K mg) : FnOk P w K mg base (L2N.CX P w) 2 (He.ga K "_law_some") T.fd_law_some ["vat", "things"] (spOf K mg f_law_some) := by
  have G_law_under := ok_law_under (P := P) (w := w) (base := base) T
  refine fn_ok T.F_law_some sc_law_some (by decide) (fun ρ _ => rfl) fun cdv A outer s H E hr => ?_
  have tk : L2N.Takes (cxOf (L2N.CX P w) P w K mg base N_law_some "_law_some" (defScope st_law_some) (He.ga K "_law_some") cdv A outer s H E) (fun cls d _ H => E cls d H) := L2N.takes_of rfl rfl rfl rfl
  have px := L2N.passes_call tk (fun _ _ _ _ h => h)
  have pw : PassesOwn (model P w) (cxOf (L2N.CX P w) P w K mg base N_law_some "_law_some" (defScope st_law_some) (He.ga K "_law_some") cdv A outer s H E).A (cxOf (L2N.CX P w) P w K mg base N_law_some "_law_some" (defScope st_law_some) (He.ga K "_law_some") cdv A outer s H E).env (cxOf (L2N.CX P w) P w K mg base N_law_some "_law_some" (defScope st_law_some) (He.ga K "_law_some") cdv A outer s H E).xe := passes_of rfl
  have nd : N_law_some.Nodup := sc_law_some.nd
  have hu := hr.eqRoom
  have hr : L2.Room (1) _ := hr
  exact (ss_one (s_ret (e_vdat (e_ix ix_all sem_ix (e_var 1 rfl (.inl rfl)) (e_frz (v_call G_law_under (hr.mono (by omega)) rfl T.g_law_under T.F_law_under.kp T.b_law_under px (g_o 0 rfl (.inl rfl) (g_d (e_callB call_len c_len rfl T.n_len (by decide +kernel) (a_cons (e_var 1 rfl (.inl rfl)) a_nil)) g_nil)))) (fun _ _ => rfl)))))
theorem okr_law_many (T : T K mg) : ∀ k, FnOk P w K mg base (L2N.CX P w) (0 + k) (He.ga K "_law_many") T.fd_law_many ["body"] (spOf K mg (f_law_many k))
  | 0 => fn_bad
  | k + 1 => by
    have G_law_many := okr_law_many T k
    refine fn_ok T.F_law_many sc_law_many (by decide) (fun ρ _ => rfl) fun cdv A outer s H E hr => ?_
    have tk : L2N.Takes (cxOf (L2N.CX P w) P w K mg base N_law_many "_law_many" (defScope st_law_many) (He.ga K "_law_many") cdv A outer s H E) (fun cls d _ H => E cls d H) := L2N.takes_of rfl rfl rfl rfl
    have px := L2N.passes_call tk (fun _ _ _ _ h => h)
    have pw : PassesOwn (model P w) (cxOf (L2N.CX P w) P w K mg base N_law_many "_law_many" (defScope st_law_many) (He.ga K "_law_many") cdv A outer s H E).A (cxOf (L2N.CX P w) P w K mg base N_law_many "_law_many" (defScope st_law_many) (He.ga K "_law_many") cdv A outer s H E).env (cxOf (L2N.CX P w) P w K mg base N_law_many "_law_many" (defScope st_law_many) (He.ga K "_law_many") cdv A outer s H E).xe := passes_of rfl
    have nd : N_law_many.Nodup := sc_law_many.nd
    have hu := hr.eqRoom
    have hr : L2.Room (0 + k) _ := hr
    exact (ss_cons (s_set (i := 1) nd rfl (.inl rfl) (e_vdat e_int))
    (ss_cons (s_for pw rfl (i_tup (e_var 0 rfl (.inl rfl))) (g_nm (i := 2) nd rfl (.inl rfl)) (ss_cons (s_set (i := 1) nd rfl (.inl rfl) (e_vdat (e_op op_addD sem_add (e_var 1 rfl (.inl rfl)) e_int)))
    (ss_one (s_if (t_cmp (op_eqM hu) sem_eq (e_ix ix_all sem_ix (e_var 2 rfl (.inl rfl)) e_int (fun _ _ => rfl)) e_str (nomark _)) (ss_one (s_set (i := 1) nd rfl (.inl rfl) (e_vdat (e_op op_addD sem_add (e_op op_addD sem_add (e_var 1 rfl (.inl rfl)) (e_frz (v_call G_law_many (hr.mono (by omega)) rfl T.g_law_many T.F_law_many.kp T.b_law_many px (g_d (e_ix ix_all sem_ix (e_var 2 rfl (.inl rfl)) e_int (fun _ _ => rfl)) g_nil)))) (e_frz (v_call G_law_many (hr.mono (by omega)) rfl T.g_law_many T.F_law_many.kp T.b_law_many px (g_d (e_ix ix_all sem_ix (e_var 2 rfl (.inl rfl)) e_int (fun _ _ => rfl)) g_nil))))))) ss_nil))))
    (ss_one (s_ret (e_vdat (e_var 1 rfl (.inl rfl)))))))
theorem ok_law_many (T : T K mg) (k : Nat) : FnOk P w K mg base (L2N.CX P w) (0 + k) (He.ga K "_law_many") T.fd_law_many ["body"] (spOf K mg (f_law_many k)) := okr_law_many T k
theorem ok_law_two (T : T K mg) : FnOk P w K mg base (L2N.CX P w) 3 (He.ga K "_law_two") T.fd_law_two ["vat"] (spOf K mg f_law_two) := by
  have G_law_some := ok_law_some (P := P) (w := w) (base := base) T
  refine fn_ok T.F_law_two sc_law_two (by decide) (fun ρ _ => rfl) fun cdv A outer s H E hr => ?_
  have tk : L2N.Takes (cxOf (L2N.CX P w) P w K mg base N_law_two "_law_two" (defScope st_law_two) (He.ga K "_law_two") cdv A outer s H E) (fun cls d _ H => E cls d H) := L2N.takes_of rfl rfl rfl rfl
  have px := L2N.passes_call tk (fun _ _ _ _ h => h)
  have pw : PassesOwn (model P w) (cxOf (L2N.CX P w) P w K mg base N_law_two "_law_two" (defScope st_law_two) (He.ga K "_law_two") cdv A outer s H E).A (cxOf (L2N.CX P w) P w K mg base N_law_two "_law_two" (defScope st_law_two) (He.ga K "_law_two") cdv A outer s H E).env (cxOf (L2N.CX P w) P w K mg base N_law_two "_law_two" (defScope st_law_two) (He.ga K "_law_two") cdv A outer s H E).xe := passes_of rfl
  have nd : N_law_two.Nodup := sc_law_two.nd
  have hu := hr.eqRoom
  have hr : L2.Room (2) _ := hr
  exact (ss_cons (s_set (i := 1) nd rfl (.inr rfl) (v_call G_law_some (hr.mono (by omega)) rfl T.g_law_some T.F_law_some.kp T.b_law_some px (g_o 0 rfl (.inl rfl) (g_d (e_lst (a_cons e_str (a_cons e_str (a_cons e_str a_nil)))) g_nil))))
    (ss_one (s_ret (e_vdat (e_tup (a_cons (e_var 1 rfl (.inr (.inl rfl))) (a_cons (e_frz (v_call G_law_some (hr.mono (by omega)) rfl T.g_law_some T.F_law_some.kp T.b_law_some px (g_o 0 rfl (.inl rfl) (g_d (e_frz (v_lc (own := [("other", 2)]) rfl nd (i_lst (e_lst (a_cons e_str (a_cons e_str (a_cons e_str a_nil))))) (blkOk_by (N := N_law_two) (sc := defScope st_law_two) (by decide +kernel)) (by decide) (fun _ _ _ _ _ => (g_nm (i := 2) nd rfl (.inl rfl))) (fun _ _ _ _ _ => (ts_one (t_cmp (op_neM hu) sem_ne (e_var 2 rfl (.inl rfl)) (e_var 1 rfl (.inr (.inl rfl))) (nomark _)))) (fun _ _ _ _ _ => (e_var 2 rfl (.inl rfl))))) g_nil)))) a_nil)))))))
theorem ok_law_plain (T : T K mg) : FnOk P w K mg base (L2N.CX P w) 4 (He.ga K "_law_plain") T.fd_law_plain ["vat"] (spOf K mg f_law_plain) := by
  have G_law_some := ok_law_some (P := P) (w := w) (base := base) T
  have G_law_two := ok_law_two (P := P) (w := w) (base := base) T
  have G_law_under := ok_law_under (P := P) (w := w) (base := base) T
  refine fn_ok T.F_law_plain sc_law_plain (by decide) (fun ρ _ => rfl) fun cdv A outer s H E hr => ?_
  have tk : L2N.Takes (cxOf (L2N.CX P w) P w K mg base N_law_plain "_law_plain" (defScope st_law_plain) (He.ga K "_law_plain") cdv A outer s H E) (fun cls d _ H => E cls d H) := L2N.takes_of rfl rfl rfl rfl
  have px := L2N.passes_call tk (fun _ _ _ _ h => h)
  have pw : PassesOwn (model P w) (cxOf (L2N.CX P w) P w K mg base N_law_plain "_law_plain" (defScope st_law_plain) (He.ga K "_law_plain") cdv A outer s H E).A (cxOf (L2N.CX P w) P w K mg base N_law_plain "_law_plain" (defScope st_law_plain) (He.ga K "_law_plain") cdv A outer s H E).env (cxOf (L2N.CX P w) P w K mg base N_law_plain "_law_plain" (defScope st_law_plain) (He.ga K "_law_plain") cdv A outer s H E).xe := passes_of rfl
  have nd : N_law_plain.Nodup := sc_law_plain.nd
  have hu := hr.eqRoom
  have hr : L2.Room (3) _ := hr
  exact (ss_cons (s_set (i := 1) nd rfl (.inl rfl) (v_call G_law_some (hr.mono (by omega)) rfl T.g_law_some T.F_law_some.kp T.b_law_some px (g_o 0 rfl (.inl rfl) (g_d (e_lst (a_cons e_str (a_cons e_str (a_cons e_str (a_cons e_str (a_cons e_str (a_cons e_str a_nil))))))) g_nil))))
    (ss_cons (s_asg (e_frz (v_call G_law_two (hr.mono (by omega)) rfl T.g_law_two T.F_law_two.kp T.b_law_two px (g_o 0 rfl (.inl rfl) g_nil))) (g_tp rfl (gs_cons (g_nm (i := 2) nd rfl (.inl rfl)) (gs_cons (g_nm (i := 3) nd rfl (.inl rfl)) gs_nil))))
    (ss_cons (s_if (t_cmp (op_eqM hu) sem_eq (e_var 1 rfl (.inl rfl)) e_str (nomark _)) (ss_one (s_ret (e_vdat (e_tup (a_cons e_str (a_cons (e_var 2 rfl (.inl rfl)) (a_cons (e_frz (v_call G_law_some (hr.mono (by omega)) rfl T.g_law_some T.F_law_some.kp T.b_law_some px (g_o 0 rfl (.inl rfl) (g_d (e_lst (a_cons e_int (a_cons e_int (a_cons e_int a_nil)))) g_nil)))) a_nil))))))) ss_nil)
    (ss_cons (s_if (PW.pt (w_and (t_cmp (op_eqM hu) sem_eq (e_var 1 rfl (.inl rfl)) e_str (nomark _)) (w_one (t_cmp (op_eqM hu) sem_eq (e_frz (v_call G_law_under (hr.mono (by omega)) rfl T.g_law_under T.F_law_under.kp T.b_law_under px (g_o 0 rfl (.inl rfl) (g_d e_int g_nil)))) e_int (nomark _))))) (ss_one (s_ret (e_vdat (e_tup (a_cons e_str (a_cons e_str (a_cons (e_frz (v_call G_law_some (hr.mono (by omega)) rfl T.g_law_some T.F_law_some.kp T.b_law_some px (g_o 0 rfl (.inl rfl) (g_d (e_lst (a_cons e_str (a_cons e_str a_nil))) g_nil)))) a_nil))))))) ss_nil)
    (ss_one (s_ret (e_vdat (e_tup (a_cons (e_var 1 rfl (.inl rfl)) (a_cons (e_var 2 rfl (.inl rfl)) (a_cons (e_var 3 rfl (.inl rfl)) a_nil)))))))))))
theorem okr_law_body (T : T K mg) : ∀ k, FnOk P w K mg base (L2N.CX P w) (8 + k) (He.ga K "_law_body") T.fd_law_body ["vat", "many", "deep"] (spOf K mg (f_law_body k))
  | 0 => fn_bad
  | k + 1 => by
    have G_law_many := ok_law_many (P := P) (w := w) (base := base) T 8
    have G_law_plain := ok_law_plain (P := P) (w := w) (base := base) T
    have G_law_some := ok_law_some (P := P) (w := w) (base := base) T
    have G_law_two := ok_law_two (P := P) (w := w) (base := base) T
    have G_law_under := ok_law_under (P := P) (w := w) (base := base) T
    have G_law_body := okr_law_body T k
    refine fn_ok T.F_law_body sc_law_body (by decide) (fun ρ _ => rfl) fun cdv A outer s H E hr => ?_
    have tk : L2N.Takes (cxOf (L2N.CX P w) P w K mg base N_law_body "_law_body" (defScope st_law_body) (He.ga K "_law_body") cdv A outer s H E) (fun cls d _ H => E cls d H) := L2N.takes_of rfl rfl rfl rfl
    have px := L2N.passes_call tk (fun _ _ _ _ h => h)
    have pw : PassesOwn (model P w) (cxOf (L2N.CX P w) P w K mg base N_law_body "_law_body" (defScope st_law_body) (He.ga K "_law_body") cdv A outer s H E).A (cxOf (L2N.CX P w) P w K mg base N_law_body "_law_body" (defScope st_law_body) (He.ga K "_law_body") cdv A outer s H E).env (cxOf (L2N.CX P w) P w K mg base N_law_body "_law_body" (defScope st_law_body) (He.ga K "_law_body") cdv A outer s H E).xe := passes_of rfl
    have nd : N_law_body.Nodup := sc_law_body.nd
    have hu := hr.eqRoom
    have hr : L2.Room (8 + k) _ := hr
    exact (ss_cons (s_set (i := 3) nd rfl (.inl rfl) (e_vdat (e_tup a_nil)))
    (ss_cons (s_while (fun _ => 1000) pw (PW.pt (w_and (t_cmp op_gt sem_gt (e_var 1 rfl (.inl rfl)) e_int (nomark _)) (w_one (t_cmp op_lt sem_lt (e_callB call_len c_len rfl T.n_len (by decide +kernel) (a_cons (e_var 3 rfl (.inl rfl)) a_nil)) e_int (nomark _))))) (ss_cons (s_set (i := 4) nd rfl (.inl rfl) (v_call G_law_plain (hr.mono (by omega)) rfl T.g_law_plain T.F_law_plain.kp T.b_law_plain px (g_o 0 rfl (.inl rfl) g_nil)))
    (ss_cons (s_if (t_cmp (op_eqM hu) sem_eq (e_frz (v_call G_law_under (hr.mono (by omega)) rfl T.g_law_under T.F_law_under.kp T.b_law_under px (g_o 0 rfl (.inl rfl) (g_d e_int g_nil)))) e_int (nomark _)) (ss_cons (s_asg (e_frz (v_call G_law_some (hr.mono (by omega)) rfl T.g_law_some T.F_law_some.kp T.b_law_some px (g_o 0 rfl (.inl rfl) (g_d (e_lst (a_cons (e_tup (a_cons e_str (a_cons e_str a_nil))) (a_cons (e_tup (a_cons e_str (a_cons e_str a_nil))) (a_cons (e_tup (a_cons e_str (a_cons e_str a_nil))) (a_cons (e_frz (v_call G_law_two (hr.mono (by omega)) rfl T.g_law_two T.F_law_two.kp T.b_law_two px (g_o 0 rfl (.inl rfl) g_nil))) a_nil))))) g_nil)))) (g_tp rfl (gs_cons (g_nm (i := 5) nd rfl (.inl rfl)) (gs_cons (g_nm (i := 6) nd rfl (.inl rfl)) gs_nil))))
    (ss_cons (s_set (i := 7) nd rfl (.inl rfl) (e_vdat (e_if (t_cmp op_gt sem_gt (e_var 2 rfl (.inl rfl)) e_int (nomark _)) (e_frz (v_call G_law_body (hr.mono (by omega)) rfl T.g_law_body T.F_law_body.kp T.b_law_body px (g_o 0 rfl (.inl rfl) (g_d (e_frz (v_call G_law_under (hr.mono (by omega)) rfl T.g_law_under T.F_law_under.kp T.b_law_under px (g_o 0 rfl (.inl rfl) (g_d (e_var 1 rfl (.inl rfl)) g_nil)))) (g_d (e_op op_sub sem_sub (e_var 2 rfl (.inl rfl)) e_int) g_nil))))) (e_tup a_nil))))
    (ss_cons (s_set (i := 8) nd rfl (.inl rfl) (e_vdat (e_op op_sub sem_sub (e_var 1 rfl (.inl rfl)) (e_frz (v_call G_law_many (hr.mono (by omega)) rfl T.g_law_many T.F_law_many.kp T.b_law_many px (g_d (e_var 7 rfl (.inl rfl)) g_nil))))))
    (ss_cons (s_set (i := 9) nd rfl (.inl rfl) (e_vdat (e_tup a_nil)))
    (ss_cons (s_if (t_cmp op_gt sem_gt (e_var 2 rfl (.inl rfl)) e_int (nomark _)) (ss_one (s_set (i := 9) nd rfl (.inl rfl) (v_call G_law_body (hr.mono (by omega)) rfl T.g_law_body T.F_law_body.kp T.b_law_body px (g_o 0 rfl (.inl rfl) (g_d (e_frz (v_call G_law_under (hr.mono (by omega)) rfl T.g_law_under T.F_law_under.kp T.b_law_under px (g_o 0 rfl (.inl rfl) (g_d (e_var 8 rfl (.inl rfl)) g_nil)))) (g_d (e_op op_sub sem_sub (e_var 2 rfl (.inl rfl)) e_int) g_nil)))))) ss_nil)
    (ss_cons (s_set (i := 10) nd rfl (.inl rfl) (e_vdat (e_tup (a_cons (e_frz (v_call G_law_some (hr.mono (by omega)) rfl T.g_law_some T.F_law_some.kp T.b_law_some px (g_o 0 rfl (.inl rfl) (g_d (e_lst (a_cons e_str (a_cons e_str (a_cons e_str a_nil)))) g_nil)))) (a_cons (e_var 5 rfl (.inl rfl)) (a_cons (e_var 6 rfl (.inl rfl)) a_nil))))))
    (ss_one (s_set (i := 4) nd rfl (.inl rfl) (e_vdat (e_tup (a_cons e_str (a_cons (e_var 10 rfl (.inl rfl)) (a_cons (e_var 7 rfl (.inl rfl)) (a_cons (e_var 9 rfl (.inl rfl)) a_nil)))))))))))))) ss_nil)
    (ss_cons (s_set (i := 3) nd rfl (.inl rfl) (e_vdat (e_op op_addD sem_add (e_var 3 rfl (.inl rfl)) (e_tup (a_cons (e_var 4 rfl (.inl rfl)) a_nil)))))
    (ss_one (s_set (i := 1) nd rfl (.inl rfl) (e_vdat (e_op op_sub sem_sub (e_var 1 rfl (.inl rfl)) (e_frz (v_call G_law_many (hr.mono (by omega)) rfl T.g_law_many T.F_law_many.kp T.b_law_many px (g_d (e_tup (a_cons (e_var 4 rfl (.inl rfl)) a_nil)) g_nil)))))))))))
    (ss_one (s_ret (e_vdat (e_var 3 rfl (.inl rfl)))))))
theorem ok_law_body (T : T K mg) (k : Nat) : FnOk P w K mg base (L2N.CX P w) (8 + k) (He.ga K "_law_body") T.fd_law_body ["vat", "many", "deep"] (spOf K mg (f_law_body k)) := okr_law_body T k
theorem ok_law_script (T : T K mg) : FnOk P w K mg base (L2N.CX P w) 17 (He.ga K "_law_script") T.fd_law_script ["vat", "most"] (spOf K mg f_law_script) := by
  have G_law_body := ok_law_body (P := P) (w := w) (base := base) T 8
  have G_law_under := ok_law_under (P := P) (w := w) (base := base) T
  refine fn_ok T.F_law_script sc_law_script (by decide) (fun ρ _ => rfl) fun cdv A outer s H E hr => ?_
  have tk : L2N.Takes (cxOf (L2N.CX P w) P w K mg base N_law_script "_law_script" (defScope st_law_script) (He.ga K "_law_script") cdv A outer s H E) (fun cls d _ H => E cls d H) := L2N.takes_of rfl rfl rfl rfl
  have px := L2N.passes_call tk (fun _ _ _ _ h => h)
  have pw : PassesOwn (model P w) (cxOf (L2N.CX P w) P w K mg base N_law_script "_law_script" (defScope st_law_script) (He.ga K "_law_script") cdv A outer s H E).A (cxOf (L2N.CX P w) P w K mg base N_law_script "_law_script" (defScope st_law_script) (He.ga K "_law_script") cdv A outer s H E).env (cxOf (L2N.CX P w) P w K mg base N_law_script "_law_script" (defScope st_law_script) (He.ga K "_law_script") cdv A outer s H E).xe := passes_of rfl
  have nd : N_law_script.Nodup := sc_law_script.nd
  have hu := hr.eqRoom
  have hr : L2.Room (16) _ := hr
  exact (ss_one (s_ret (v_call G_law_body (hr.mono (by omega)) rfl T.g_law_body T.F_law_body.kp T.b_law_body px (g_o 0 rfl (.inl rfl) (g_d (e_frz (v_call G_law_under (hr.mono (by omega)) rfl T.g_law_under T.F_law_under.kp T.b_law_under px (g_o 0 rfl (.inl rfl) (g_d (e_op op_addD sem_add (e_var 1 rfl (.inl rfl)) e_int) g_nil)))) (g_d e_int g_nil))))))
theorem okr_law_without (T : T K mg) : ∀ k, FnOk P w K mg base (L2N.CX P w) (8 + k) (He.ga K "_law_without") T.fd_law_without ["body", "number"] (spOf K mg (f_law_without k))
  | 0 => fn_bad
  | k + 1 => by
    have G_law_many := ok_law_many (P := P) (w := w) (base := base) T 8
    have G_law_without := okr_law_without T k
    refine fn_ok T.F_law_without sc_law_without (by decide) (fun ρ _ => rfl) fun cdv A outer s H E hr => ?_
    have tk : L2N.Takes (cxOf (L2N.CX P w) P w K mg base N_law_without "_law_without" (defScope st_law_without) (He.ga K "_law_without") cdv A outer s H E) (fun cls d _ H => E cls d H) := L2N.takes_of rfl rfl rfl rfl
    have px := L2N.passes_call tk (fun _ _ _ _ h => h)
    have pw : PassesOwn (model P w) (cxOf (L2N.CX P w) P w K mg base N_law_without "_law_without" (defScope st_law_without) (He.ga K "_law_without") cdv A outer s H E).A (cxOf (L2N.CX P w) P w K mg base N_law_without "_law_without" (defScope st_law_without) (He.ga K "_law_without") cdv A outer s H E).env (cxOf (L2N.CX P w) P w K mg base N_law_without "_law_without" (defScope st_law_without) (He.ga K "_law_without") cdv A outer s H E).xe := passes_of rfl
    have nd : N_law_without.Nodup := sc_law_without.nd
    have hu := hr.eqRoom
    have hr : L2.Room (8 + k) _ := hr
    exact (ss_cons (s_asg (e_tup (a_cons (e_tup a_nil) (a_cons e_int a_nil))) (g_tp rfl (gs_cons (g_nm (i := 2) nd rfl (.inl rfl)) (gs_cons (g_nm (i := 3) nd rfl (.inl rfl)) gs_nil))))
    (ss_cons (s_for pw rfl (i_tup (e_var 0 rfl (.inl rfl))) (g_nm (i := 4) nd rfl (.inl rfl)) (ss_cons (s_set (i := 5) nd rfl (.inl rfl) (v_call G_law_many (hr.mono (by omega)) rfl T.g_law_many T.F_law_many.kp T.b_law_many px (g_d (e_tup (a_cons (e_var 4 rfl (.inl rfl)) a_nil)) g_nil)))
    (ss_cons (s_if (t_chain op_lt sem_lt op_lt sem_lt (e_var 3 rfl (.inl rfl)) (e_var 1 rfl (.inl rfl)) (e_op op_addD sem_add (e_var 3 rfl (.inl rfl)) (e_var 5 rfl (.inl rfl)))) (ss_cons (s_set (i := 6) nd rfl (.inl rfl) (v_call G_law_many (hr.mono (by omega)) rfl T.g_law_many T.F_law_many.kp T.b_law_many px (g_d (e_ix ix_all sem_ix (e_var 4 rfl (.inl rfl)) e_int (fun _ _ => rfl)) g_nil)))
    (ss_cons (s_set (i := 7) nd rfl (.inl rfl) (v_call G_law_without (hr.mono (by omega)) rfl T.g_law_without T.F_law_without.kp T.b_law_without px (g_d (e_ix ix_all sem_ix (e_var 4 rfl (.inl rfl)) e_int (fun _ _ => rfl)) (g_d (e_op op_sub sem_sub (e_op op_sub sem_sub (e_var 1 rfl (.inl rfl)) (e_var 3 rfl (.inl rfl))) e_int) g_nil))))
    (ss_cons (s_set (i := 8) nd rfl (.inl rfl) (v_call G_law_without (hr.mono (by omega)) rfl T.g_law_without T.F_law_without.kp T.b_law_without px (g_d (e_ix ix_all sem_ix (e_var 4 rfl (.inl rfl)) e_int (fun _ _ => rfl)) (g_d (e_op op_sub sem_sub (e_op op_sub sem_sub (e_op op_sub sem_sub (e_var 1 rfl (.inl rfl)) (e_var 3 rfl (.inl rfl))) e_int) (e_var 6 rfl (.inl rfl))) g_nil))))
    (ss_one (s_set (i := 2) nd rfl (.inl rfl) (e_vdat (e_op op_addD sem_add (e_var 2 rfl (.inl rfl)) (e_tup (a_cons (e_tup (a_cons e_str (a_cons (e_ix ix_all sem_ix (e_var 4 rfl (.inl rfl)) e_int (fun _ _ => rfl)) (a_cons (e_var 7 rfl (.inl rfl)) (a_cons (e_var 8 rfl (.inl rfl)) a_nil))))) a_nil))))))))) (ss_one (s_if (t_cmp (op_neM hu) sem_ne (e_var 3 rfl (.inl rfl)) (e_var 1 rfl (.inl rfl)) (nomark _)) (ss_one (s_set (i := 2) nd rfl (.inl rfl) (e_vdat (e_op op_addD sem_add (e_var 2 rfl (.inl rfl)) (e_tup (a_cons (e_var 4 rfl (.inl rfl)) a_nil)))))) ss_nil)))
    (ss_one (s_set (i := 3) nd rfl (.inl rfl) (e_vdat (e_op op_addD sem_add (e_var 3 rfl (.inl rfl)) (e_var 5 rfl (.inl rfl)))))))))
    (ss_one (s_ret (e_vdat (e_var 2 rfl (.inl rfl)))))))
theorem ok_law_without (T : T K mg) (k : Nat) : FnOk P w K mg base (L2N.CX P w) (8 + k) (He.ga K "_law_without") T.fd_law_without ["body", "number"] (spOf K mg (f_law_without k)) := okr_law_without T k
theorem ok_law (T : T K mg) (TB : LamX.TabB base mg (He.cT K ("law", none)).1 (He.cT K ("law", none)).2) : FnOk P w K mg base (L2N.CX P w) 21 (He.ga K "law") T.fd_law ["script"] (spOf K mg f_law) := by
  have G_law_many := ok_law_many (P := P) (w := w) (base := base) T 8
  have G_law_script := ok_law_script (P := P) (w := w) (base := base) T
  have G_law_vat := ok_law_vat (P := P) (w := w) (base := base) T
  have G_law_without := ok_law_without (P := P) (w := w) (base := base) T 8
  have G_without := ok_without (P := P) (w := w) (base := base) T
  have NH := names_h (P := P) (w := w) (base := base) T
  refine fn_okC T.F_law sc_law (by decide) (fun ρ _ => rfl) fun cdv A outer s H E hco hr => ?_
  have hr2 : L2.Room 20 _ := hr
  have tk : L2N.Takes (cxOf (L2N.CX P w) P w K mg base N_law "law" (defScope st_law) (He.ga K "law") cdv A outer s H E) (fun cls d _ H => E cls d H) := L2N.takes_of rfl rfl rfl rfl
  have px := L2N.passes_call tk (fun _ _ _ _ h => h)
  have pw : PassesOwn (model P w) (cxOf (L2N.CX P w) P w K mg base N_law "law" (defScope st_law) (He.ga K "law") cdv A outer s H E).A (cxOf (L2N.CX P w) P w K mg base N_law "law" (defScope st_law) (He.ga K "law") cdv A outer s H E).env (cxOf (L2N.CX P w) P w K mg base N_law "law" (defScope st_law) (He.ga K "law") cdv A outer s H E).xe := passes_of rfl
  have nd : N_law.Nodup := sc_law.nd
  have hu := hr.eqRoom
  have hr : L2.Room (20) _ := hr
  exact (ss_cons (s_for pw rfl (i_rng1 rfl T.n_range (a_cons (e_callB (call_max2 rfl) c_max rfl T.n_max (by decide +kernel) (a_cons e_int (a_cons (e_callB (call_min2 rfl) c_min rfl T.n_min (by decide +kernel) (a_cons e_int (a_cons (e_callB call_len c_len rfl T.n_len (by decide +kernel) (a_cons (e_var 0 rfl (.inl rfl)) a_nil)) a_nil))) a_nil))) a_nil)) (g_nm (i := 1) nd rfl (.inl rfl)) (ss_cons (s_set (i := 2) nd rfl (.inl rfl) (v_call G_law_vat (hr.mono (by omega)) rfl T.g_law_vat T.F_law_vat.kp T.b_law_vat px (g_d (e_var 0 rfl (.inl rfl)) (g_d (e_var 1 rfl (.inl rfl)) g_nil))))
    (ss_cons (s_set (i := 3) nd rfl (.inr rfl) (v_call G_law_script (hr.mono (by omega)) rfl T.g_law_script T.F_law_script.kp T.b_law_script px (g_o 2 rfl (.inl rfl) (g_d e_int g_nil))))
    (ss_cons (s_for pw rfl (i_rng1 rfl T.n_range (a_cons (e_frz (v_call G_law_many (hr.mono (by omega)) rfl T.g_law_many T.F_law_many.kp T.b_law_many px (g_d (e_var 3 rfl (.inr (.inl rfl))) g_nil))) a_nil)) (g_nm (i := 4) nd rfl (.inl rfl)) (ss_one (s_if (t_cmp (op_neM hu) sem_ne (e_frz (v_call G_without (hr.mono (by omega)) rfl T.g_without T.F_without.kp T.b_without px (g_d (e_var 3 rfl (.inr (.inl rfl))) (g_d (e_var 4 rfl (.inl rfl)) g_nil)))) (e_frz (v_call G_law_without (hr.mono (by omega)) rfl T.g_law_without T.F_law_without.kp T.b_law_without px (g_d (e_var 3 rfl (.inr (.inl rfl))) (g_d (e_var 4 rfl (.inl rfl)) g_nil)))) (nomark _)) (ss_one (s_ret (e_vdat e_bl))) ss_nil)))
    (ss_cons (s_for pw rfl (i_lst (e_lst (a_cons (e_neg e_int) (a_cons (e_frz (v_call G_law_many (hr.mono (by omega)) rfl T.g_law_many T.F_law_many.kp T.b_law_many px (g_d (e_var 3 rfl (.inr (.inl rfl))) g_nil))) (a_cons e_non (a_cons e_bl (a_cons e_str a_nil))))))) (g_nm (i := 5) nd rfl (.inr rfl)) (ss_one (s_if (t_cmp (op_neM hu) sem_ne (e_err (n := 18) rfl T.g_law_error T.F_law_error.kp T.F_law_error T.b_law_error sc_law_error (.inl rfl) rfl rfl rfl T.g_CordError T.g_law_names T.F_law_names.kp T.b_law_names (NH.mono (by omega)) T.exm TB hco (T.tab_law) (fun p hp e => T.tabu _ (T.tab_law) p hp e) hr2 (lamS_by (sc := defScope st_law) (by decide +kernel)) rfl (fun _ _ _ _ _ => rfl) (fun A2 outer2 s2 H2 E2 f2 c2 hr => (have hu := hr.eqRoom; have px := L2N.passes_call (lamC_takes) (fun _ _ _ _ h => h); e_frz (v_call G_without (hr.mono (by omega)) rfl T.g_without T.F_without.kp T.b_without px (g_d (e_var 3 rfl (.inr (.inr rfl))) (g_d (e_var 5 rfl (.inr (.inr rfl))) g_nil)))))) e_str (nomark _)) (ss_one (s_ret (e_vdat e_bl))) ss_nil)))
    (ss_one (s_if (t_cmp (op_neM hu) sem_ne (e_err (n := 18) rfl T.g_law_error T.F_law_error.kp T.F_law_error T.b_law_error sc_law_error (.inl rfl) rfl rfl rfl T.g_CordError T.g_law_names T.F_law_names.kp T.b_law_names (NH.mono (by omega)) T.exm TB hco (T.tab_law) (fun p hp e => T.tabu _ (T.tab_law) p hp e) hr2 (lamS_by (sc := defScope st_law) (by decide +kernel)) rfl (fun _ _ _ _ _ => rfl) (fun A2 outer2 s2 H2 E2 f2 c2 hr => (have hu := hr.eqRoom; have px := L2N.passes_call (lamC_takes) (fun _ _ _ _ h => h); e_frz (v_call G_without (hr.mono (by omega)) rfl T.g_without T.F_without.kp T.b_without px (g_d (e_callTy call_list_of c_lst rfl T.n_list (by decide +kernel) (a_cons (e_var 3 rfl (.inr (.inr rfl))) a_nil)) (g_d e_non g_nil)))))) e_str (nomark _)) (ss_one (s_ret (e_vdat e_bl))) ss_nil)))))))
    (ss_cons (s_asg (e_tup (a_cons (e_tup (a_cons e_str (a_cons e_str (a_cons e_int a_nil)))) (a_cons (e_tup (a_cons e_str (a_cons e_str (a_cons e_str a_nil)))) a_nil))) (g_tp rfl (gs_cons (g_nm (i := 6) nd rfl (.inl rfl)) (gs_cons (g_nm (i := 7) nd rfl (.inl rfl)) gs_nil))))
    (ss_cons (s_set (i := 3) nd rfl (.inr rfl) (e_vdat (e_tup (a_cons (e_tup (a_cons e_str (a_cons (e_tup (a_cons e_str (a_cons e_str (a_cons e_str a_nil)))) (a_cons (e_tup (a_cons (e_var 6 rfl (.inl rfl)) (a_cons (e_var 7 rfl (.inl rfl)) a_nil))) (a_cons (e_tup (a_cons (e_var 7 rfl (.inl rfl)) a_nil)) a_nil))))) (a_cons (e_var 6 rfl (.inl rfl)) a_nil)))))
    (ss_cons (s_if (PW.pt (w_or (t_cmp (op_neM hu) sem_ne (e_frz (v_call G_without (hr.mono (by omega)) rfl T.g_without T.F_without.kp T.b_without px (g_d (e_var 3 rfl (.inr (.inl rfl))) (g_d e_int g_nil)))) (e_tup (a_cons (e_var 6 rfl (.inl rfl)) a_nil)) (nomark _)) (w_oneO (t_cmp (op_neM hu) sem_ne (e_frz (v_call G_without (hr.mono (by omega)) rfl T.g_without T.F_without.kp T.b_without px (g_d (e_var 3 rfl (.inr (.inl rfl))) (g_d e_int g_nil)))) (e_sl (sl_all sl_str) (e_var 3 rfl (.inr (.inl rfl))) p_none (p_some e_int)) (nomark _))))) (ss_one (s_ret (e_vdat e_bl))) ss_nil)
    (ss_one (s_ret (e_vdat (e_cmp (op_eqM hu) sem_eq (e_frz (v_call G_without (hr.mono (by omega)) rfl T.g_without T.F_without.kp T.b_without px (g_d (e_var 3 rfl (.inr (.inl rfl))) (g_d e_int g_nil)))) (e_tup (a_cons (e_tup (a_cons e_str (a_cons (e_tup (a_cons e_str (a_cons e_str (a_cons e_str a_nil)))) (a_cons (e_tup (a_cons (e_var 6 rfl (.inl rfl)) (a_cons (e_var 7 rfl (.inl rfl)) a_nil))) (a_cons (e_tup a_nil) a_nil))))) (a_cons (e_var 6 rfl (.inl rfl)) a_nil))) (nomark _)))))))))
end

end Cd.K02

set_option Elab.async false
set_option linter.all false
set_option autoImplicit false
set_option maxRecDepth 100000
set_option maxHeartbeats 1000000
namespace Cd.K02
open PySem PySem.Spec L2 L2H LamX Cd
theorem atI_0 {α : Type} (x : α) (r : List α) : atI (x :: r) 0 = some x := by
  unfold atI ixN
  simp
theorem size_ok : ∀ (k n : Nat) (l : List Stm), Stm.oks n l → n < k → f_size k [.dat (bD l)] = .ok (.dat (.int (Stm.szs l : Nat))) [.dat (bD l)]
  | 0, n, l, _, h => absurd h (Nat.not_lt_zero n)
  | k + 1, n, l, ok, hk => by
    have loop := loop_rel (T := gNm 2) (mb := sIf (bOf (eBin eqD (eBin ixD (eVar 2) (eC (.int 0))) (eC (.str "if")))) (sSet 1 (vDat (eBin addD (eBin addD (eVar 1) (eFrz (eCall (f_size k) (gD (eBin ixD (eVar 2) (eC (.int 2))) gNilA)))) (eFrz (eCall (f_size k) (gD (eBin ixD (eVar 2) (eC (.int 3))) gNilA)))))) sNx)
      (fun (acc : Int) v => [.dat (bD l), .dat (.int acc), v]) Stm.d (fun rest acc => Stm.oks n rest ∧ acc + Stm.szs rest = Stm.szs l + rest.length) (fun s v d hv => put_free rfl hv) (fun a r acc ⟨h1, h2⟩ => ?_) l l.length .un Val.free_un ⟨ok, by omega⟩
    · obtain ⟨acc, v, e, hv, _, e2⟩ := loop
      have e2 : acc = Stm.szs l := by simp [Stm.szs] at e2; omega
      subst e2
      refine fn_ret (ρ' := [.dat (bD l), .dat (.int (Stm.szs l : Nat)), v]) ?_
      show b_size (f_size k) [.dat (bD l), .un, .un] = _
      unfold b_size
      refine seq_to rfl (seq_to (ρ1 := [.dat (bD l), .dat (.int (Stm.szs l : Nat)), v]) (for_to rfl ?_) (ret_to rfl))
      rw [Stm.ds_map, List.length_map]
      exact e
    · rw [Stm.oks_cons] at h1
      rw [Stm.szs_cons, List.length_cons] at h2
      cases a with
      | pl s =>
        obtain ⟨h1, h3⟩ := h1
        unfold Stm.ok at h1
        obtain ⟨w, p, q, rfl, e1, _⟩ := plain_parts h1.1
        refine ⟨acc, ?_, h3, ?_⟩
        · exact if_f (bOf_to (bin_to rfl rfl e1)) rfl
        · simp only [Stm.sz] at h2; omega
      | cd t x y =>
        obtain ⟨h1, h3⟩ := h1
        unfold Stm.ok at h1
        obtain ⟨_, h4, _, _, h5, h6⟩ := h1
        have i1 := size_ok k (n - 1) x h5 (by omega)
        have i2 := size_ok k (n - 1) y h6 (by omega)
        refine ⟨acc + Stm.szs x + Stm.szs y, ?_, h3, ?_⟩
        · exact if_t (bOf_to (bin_to rfl rfl if_if)) (set_to (dat_to (bin_to (bin_to rfl (frz_to (call1_to rfl i1)) rfl) (frz_to (call1_to rfl i2)) rfl)) rfl)
        · simp only [Stm.sz] at h2; omega
theorem one_ok {n : Nat} {s : Stm} (h : s.ok n) : Stm.oks n [s] := (Stm.oks_cons _ _).mpr ⟨h, by unfold Stm.oks; trivial⟩
theorem szs_one (s : Stm) : Stm.szs [s] = s.sz := by rw [Stm.szs_cons, Stm.szs]; rfl
theorem size1 {n : Nat} {s : Stm} (h : s.ok n) (hn : n < 8) : f_size 8 [.dat (.tup [s.d])] = .ok (.dat (.int (s.sz : Nat))) [.dat (.tup [s.d])] := by
  have e := size_ok 8 n [s] (one_ok h) hn
  rw [szs_one] at e
  exact e
theorem many_ok : ∀ (k n : Nat) (l : List Stm), Stm.oks n l → n < k → f_law_many k [.dat (bD l)] = .ok (.dat (.int (Stm.szs l : Nat))) [.dat (bD l)]
  | 0, n, l, _, h => absurd h (Nat.not_lt_zero n)
  | k + 1, n, l, ok, hk => by
    have loop := loop_rel (T := gNm 2) (mb := sSeq (sSet 1 (vDat (eBin addD (eVar 1) (eC (.int 1))))) (sIf (bOf (eBin eqD (eBin ixD (eVar 2) (eC (.int 0))) (eC (.str "if")))) (sSet 1 (vDat (eBin addD (eBin addD (eVar 1) (eFrz (eCall (f_law_many k) (gD (eBin ixD (eVar 2) (eC (.int 2))) gNilA)))) (eFrz (eCall (f_law_many k) (gD (eBin ixD (eVar 2) (eC (.int 3))) gNilA)))))) sNx))
      (fun (acc : Int) v => [.dat (bD l), .dat (.int acc), v]) Stm.d (fun rest acc => Stm.oks n rest ∧ acc + Stm.szs rest = Stm.szs l) (fun s v d hv => put_free rfl hv) (fun a r acc ⟨h1, h2⟩ => ?_) l 0 .un Val.free_un ⟨ok, by omega⟩
    · obtain ⟨acc, v, e, hv, _, e2⟩ := loop
      have e2 : acc = Stm.szs l := by simp [Stm.szs] at e2; omega
      subst e2
      refine fn_ret (ρ' := [.dat (bD l), .dat (.int (Stm.szs l : Nat)), v]) ?_
      show b_law_many (f_law_many k) [.dat (bD l), .un, .un] = _
      unfold b_law_many
      refine seq_to rfl (seq_to (ρ1 := [.dat (bD l), .dat (.int (Stm.szs l : Nat)), v]) (for_to rfl ?_) (ret_to rfl))
      rw [Stm.ds_map]
      exact e
    · rw [Stm.oks_cons] at h1
      rw [Stm.szs_cons] at h2
      cases a with
      | pl s =>
        obtain ⟨h1, h3⟩ := h1
        unfold Stm.ok at h1
        obtain ⟨w, p, q, rfl, e1, _⟩ := plain_parts h1.1
        refine ⟨acc + 1, seq_to rfl (if_f (bOf_to (bin_to rfl rfl e1)) rfl), h3, ?_⟩
        simp only [Stm.sz] at h2; omega
      | cd t x y =>
        obtain ⟨h1, h3⟩ := h1
        unfold Stm.ok at h1
        obtain ⟨_, h4, _, _, h5, h6⟩ := h1
        have i1 := many_ok k (n - 1) x h5 (by omega)
        have i2 := many_ok k (n - 1) y h6 (by omega)
        refine ⟨acc + 1 + Stm.szs x + Stm.szs y, seq_to rfl (if_t (bOf_to (bin_to rfl rfl if_if)) (set_to (dat_to (bin_to (bin_to rfl (frz_to (call1_to rfl i1)) rfl) (frz_to (call1_to rfl i2)) rfl)) rfl)), h3, ?_⟩
        simp only [Stm.sz] at h2; omega
theorem many1 {n : Nat} {s : Stm} (h : s.ok n) (hn : n < 8) : f_law_many 8 [.dat (.tup [s.d])] = .ok (.dat (.int (s.sz : Nat))) [.dat (.tup [s.d])] := by
  have e := many_ok 8 n [s] (one_ok h) hn
  rw [szs_one] at e
  exact e
/-- cut_out -/
theorem cut_ok : ∀ (k n : Nat) (l : List Stm) (first num : Int), Stm.oks n l → l.length ≤ 8 → n < k → n < 8 → f_cut_out k [.dat (bD l), .dat (.int first), .dat (.int num)] = .ok (.dat (bD (Stm.cuts l (num - first)))) [.dat (bD l), .dat (.int first), .dat (.int num)]
  | 0, n, l, _, _, _, _, h, _ => absurd h (Nat.not_lt_zero n)
  | k + 1, n, l, first, num, ok, hl, hk, hn => by
    have loop := loop_rel (T := gNm 4) (mb := sSeq (sSet 5 (vDat (eVar 4)))
    (sSeq (sIf (bOf (eBin eqD (eBin ixD (eVar 4) (eC (.int 0))) (eC (.str "if")))) (sSeq (sSet 6 (eCall (f_cut_out k) (gD (eBin ixD (eVar 4) (eC (.int 2))) (gD (eBin addD (eVar 1) (eC (.int 1))) (gD (eVar 2) gNilA)))))
    (sSeq (sSet 7 (eCall (f_cut_out k) (gD (eBin ixD (eVar 4) (eC (.int 3))) (gD (eBin addD (eBin addD (eVar 1) (eC (.int 1))) (eFrz (eCall (f_size 8) (gD (eBin ixD (eVar 4) (eC (.int 2))) gNilA)))) (gD (eVar 2) gNilA)))))
    (sSet 5 (vDat (eTup (aCons (eC (.str "if")) (aCons (eBin ixD (eVar 4) (eC (.int 1))) (aCons (eVar 6) (aCons (eVar 7) aNil))))))))) sNx)
    (sSeq (sIf (bOf (eBin neD (eVar 1) (eVar 2))) (sSet 3 (vDat (eBin addD (eVar 3) (eTup (aCons (eVar 5) aNil))))) sNx)
    (sSet 1 (vDat (eBin addD (eVar 1) (eFrz (eCall (f_size 8) (gD (eTup (aCons (eVar 4) aNil)) gNilA)))))))))
      (fun (s : Int × List Stm × Val × Val × Val) v => [.dat (bD l), .dat (.int s.1), .dat (.int num), .dat (bD s.2.1), v, s.2.2.1, s.2.2.2.1, s.2.2.2.2]) Stm.d
      (fun rest s => Stm.oks n rest ∧ s.2.1 ++ Stm.cuts rest (num - s.1) = Stm.cuts l (num - first) ∧ s.2.1.length + rest.length ≤ 8 ∧ s.2.2.1.free ∧ s.2.2.2.1.free ∧ s.2.2.2.2.free) (fun s v d hv => put_free rfl hv) (fun a r s h => ?_) l (first, [], .un, .un, .un) .un Val.free_un ⟨ok, rfl, by simpa using hl, Val.free_un, Val.free_un, Val.free_un⟩
    · obtain ⟨s, v, e, hv, _, e2, _⟩ := loop
      obtain ⟨f2, fd, x5, x6, x7⟩ := s
      have e2 : fd = Stm.cuts l (num - first) := by simpa [Stm.cuts] using e2
      subst e2
      refine (fn_ret (ρ' := [.dat (bD l), .dat (.int f2), .dat (.int num), .dat (bD (Stm.cuts l (num - first))), v, x5, x6, x7]) ?_).trans rfl
      show b_cut_out (f_cut_out k) [.dat (bD l), .dat (.int first), .dat (.int num), .un, .un, .un, .un, .un] = _
      unfold b_cut_out
      refine seq_to rfl (seq_to (ρ1 := [.dat (bD l), .dat (.int f2), .dat (.int num), .dat (bD (Stm.cuts l (num - first))), v, x5, x6, x7]) (for_to rfl ?_) (ret_to rfl))
      rw [Stm.ds_map]
      exact e
    · obtain ⟨f1, fd, x5, x6, x7⟩ := s
      obtain ⟨h1, h2, h3, v5, v6, v7⟩ := h
      dsimp only at h2 h3 v5 v6 v7 ⊢
      rw [Stm.oks_cons] at h1
      rw [Stm.cuts_cons] at h2
      rw [List.length_cons] at h3
      have sz1 := size1 h1.1 hn
      -- the end of a turn, the inner statements m laid or not
      have fin : ∀ (inner : Stm) (y6 y7 : Val), y6.free → y7.free → Stm.cutS a (num - f1) = (if f1 = num then [] else [inner]) → ∃ s' : Int × List Stm × Val × Val × Val, (sSeq (sIf (bOf (eBin neD (eVar 1) (eVar 2))) (sSet 3 (vDat (eBin addD (eVar 3) (eTup (aCons (eVar 5) aNil))))) sNx)
          (sSet 1 (vDat (eBin addD (eVar 1) (eFrz (eCall (f_size 8) (gD (eTup (aCons (eVar 4) aNil)) gNilA))))))) [.dat (bD l), .dat (.int f1), .dat (.int num), .dat (bD fd), .dat a.d, .dat inner.d, y6, y7] = .ok .nx [.dat (bD l), .dat (.int s'.1), .dat (.int num), .dat (bD s'.2.1), .dat a.d, s'.2.2.1, s'.2.2.2.1, s'.2.2.2.2] ∧
          (Stm.oks n r ∧ s'.2.1 ++ Stm.cuts r (num - s'.1) = Stm.cuts l (num - first) ∧ s'.2.1.length + r.length ≤ 8 ∧ s'.2.2.1.free ∧ s'.2.2.2.1.free ∧ s'.2.2.2.2.free) := fun inner y6 y7 w6 w7 hc => by
        by_cases he : f1 = num
        · subst he
          rw [if_pos rfl] at hc
          refine ⟨(f1 + a.sz, fd, .dat inner.d, y6, y7), seq_to (if_f (bOf_to (bin_to rfl rfl (by rw [neD_int]; simp))) rfl) (set_to (dat_to (bin_to rfl (frz_to (call1_to (tup_to rfl) sz1)) rfl)) rfl), h1.2, ?_, by dsimp only; omega, Val.free_dat, w6, w7⟩
          dsimp only
          rw [← h2, hc, show f1 - (f1 + (a.sz : Int)) = f1 - f1 - a.sz by omega]
          rfl
        · rw [if_neg he] at hc
          refine ⟨(f1 + a.sz, fd ++ [inner], .dat inner.d, y6, y7), seq_to (ρ1 := [.dat (bD l), .dat (.int f1), .dat (.int num), .dat (bD (fd ++ [inner])), .dat a.d, .dat inner.d, y6, y7]) (if_t (bOf_to (bin_to rfl rfl (by rw [neD_int]; simp [he]))) (set_to (dat_to (bin_to rfl (tup_to rfl) (addT (by rw [Stm.ds_len]; show fd.length + 1 ≤ 1000; omega)))) (by rw [show Stm.ds fd ++ [inner.d] = Stm.ds (fd ++ [inner]) from (Stm.ds_app fd [inner]).symm]; rfl))) (set_to (dat_to (bin_to rfl (frz_to (call1_to (tup_to rfl) sz1)) rfl)) rfl), h1.2, ?_, by dsimp only; rw [List.length_append]; simp; omega, Val.free_dat, w6, w7⟩
          dsimp only
          rw [← h2, hc, List.append_assoc, show num - (f1 + (a.sz : Int)) = num - f1 - a.sz by omega]
      cases a with
      | pl s =>
        obtain ⟨h1, h4⟩ := h1
        unfold Stm.ok at h1
        obtain ⟨w, p, q, rfl, e1, _⟩ := plain_parts h1.1
        obtain ⟨s', k1, k2⟩ := fin (.pl (.tup [.str w, p, q])) x6 x7 v6 v7 (by unfold Stm.cutS; by_cases he : f1 = num <;> simp [he]; omega)
        exact ⟨s', seq_to (set_to rfl (put_free rfl v5)) (seq_to (if_f (bOf_to (bin_to rfl rfl e1)) rfl) k1), k2⟩
      | cd t x y =>
        obtain ⟨h1, h4⟩ := h1
        unfold Stm.ok at h1
        obtain ⟨_, h4, hx, hy, h5, h6⟩ := h1
        have i1 := cut_ok k (n - 1) x (f1 + 1) num h5 hx (by omega) (by omega)
        have i2 := cut_ok k (n - 1) y (f1 + 1 + Stm.szs x) num h6 hy (by omega) (by omega)
        have iz := size_ok 8 (n - 1) x h5 (by omega)
        obtain ⟨s', k1, k2⟩ := fin (.cd t (Stm.cuts x (num - f1 - 1)) (Stm.cuts y (num - f1 - 1 - Stm.szs x))) (.dat (bD (Stm.cuts x (num - (f1 + 1))))) (.dat (bD (Stm.cuts y (num - (f1 + 1 + Stm.szs x))))) Val.free_dat Val.free_dat (by
          unfold Stm.cutS
          by_cases he : f1 = num
          · simp [he]
          · rw [if_neg (by omega), if_neg he])
        rw [show num - f1 - 1 = num - (f1 + 1) by omega, show num - (f1 + 1) - (Stm.szs x : Int) = num - (f1 + 1 + Stm.szs x) by omega] at k1
        exact ⟨s', seq_to (set_to rfl (put_free rfl v5)) (seq_to (if_t (bOf_to (bin_to rfl rfl if_if)) (seq_to (set_to (call_to rfl rfl i1) (put_free rfl v6)) (seq_to (set_to (call_to (gD_to rfl (gD_to (bin_to rfl (frz_to (call1_to rfl iz)) rfl) rfl)) rfl i2) (put_free rfl v7)) (set_to (dat_to (tup_to rfl)) rfl)))) k1), k2⟩
/-- the law's own -/
theorem lw_ok : ∀ (k n : Nat) (l : List Stm) (num : Int), Stm.oks n l → l.length ≤ 8 → n < k → n < 8 → f_law_without k [.dat (bD l), .dat (.int num)] = .ok (.dat (bD (Stm.lws l num))) [.dat (bD l), .dat (.int num)]
  | 0, n, l, _, _, _, h, _ => absurd h (Nat.not_lt_zero n)
  | k + 1, n, l, num, ok, hl, hk, hn => by
    have loop := loop_rel (T := gNm 4) (mb := sSeq (sSet 5 (eCall (f_law_many 8) (gD (eTup (aCons (eVar 4) aNil)) gNilA)))
    (sSeq (sIf (bOf (eChain ltD ltD (eVar 3) (eVar 1) (eBin addD (eVar 3) (eVar 5)))) (sSeq (sSet 6 (eCall (f_law_many 8) (gD (eBin ixD (eVar 4) (eC (.int 2))) gNilA)))
    (sSeq (sSet 7 (eCall (f_law_without k) (gD (eBin ixD (eVar 4) (eC (.int 2))) (gD (eBin subD (eBin subD (eVar 1) (eVar 3)) (eC (.int 1))) gNilA))))
    (sSeq (sSet 8 (eCall (f_law_without k) (gD (eBin ixD (eVar 4) (eC (.int 3))) (gD (eBin subD (eBin subD (eBin subD (eVar 1) (eVar 3)) (eC (.int 1))) (eVar 6)) gNilA))))
    (sSet 2 (vDat (eBin addD (eVar 2) (eTup (aCons (eTup (aCons (eC (.str "if")) (aCons (eBin ixD (eVar 4) (eC (.int 1))) (aCons (eVar 7) (aCons (eVar 8) aNil))))) aNil)))))))) (sIf (bOf (eBin neD (eVar 3) (eVar 1))) (sSet 2 (vDat (eBin addD (eVar 2) (eTup (aCons (eVar 4) aNil))))) sNx))
    (sSet 3 (vDat (eBin addD (eVar 3) (eVar 5))))))
      (fun (s : List Stm × Int × Val × Val × Val × Val) v => [.dat (bD l), .dat (.int num), .dat (bD s.1), .dat (.int s.2.1), v, s.2.2.1, s.2.2.2.1, s.2.2.2.2.1, s.2.2.2.2.2]) Stm.d
      (fun rest s => Stm.oks n rest ∧ s.1 ++ Stm.lws rest (num - s.2.1) = Stm.lws l num ∧ s.1.length + rest.length ≤ 8 ∧ s.2.2.1.free ∧ s.2.2.2.1.free ∧ s.2.2.2.2.1.free ∧ s.2.2.2.2.2.free) (fun s v d hv => put_free rfl hv) (fun a r s h => ?_) l ([], 0, .un, .un, .un, .un) .un Val.free_un ⟨ok, by simp, by simpa using hl, Val.free_un, Val.free_un, Val.free_un, Val.free_un⟩
    · obtain ⟨s, v, e, hv, _, e2, _⟩ := loop
      obtain ⟨fd, at', x5, x6, x7, x8⟩ := s
      have e2 : fd = Stm.lws l num := by simpa [Stm.lws] using e2
      subst e2
      refine (fn_ret (ρ' := [.dat (bD l), .dat (.int num), .dat (bD (Stm.lws l num)), .dat (.int at'), v, x5, x6, x7, x8]) ?_).trans rfl
      show b_law_without (f_law_without k) [.dat (bD l), .dat (.int num), .un, .un, .un, .un, .un, .un, .un] = _
      unfold b_law_without
      refine seq_to (ρ1 := [.dat (bD l), .dat (.int num), .dat (.tup []), .dat (.int 0), .un, .un, .un, .un, .un]) rfl (seq_to (ρ1 := [.dat (bD l), .dat (.int num), .dat (bD (Stm.lws l num)), .dat (.int at'), v, x5, x6, x7, x8]) (for_to rfl ?_) (ret_to rfl))
      rw [Stm.ds_map]
      exact e
    · obtain ⟨fd, at', x5, x6, x7, x8⟩ := s
      obtain ⟨h1, h2, h3, v5, v6, v7, v8⟩ := h
      dsimp only at h2 h3 v5 v6 v7 v8 ⊢
      rw [Stm.oks_cons] at h1
      rw [Stm.lws_cons] at h2
      rw [List.length_cons] at h3
      have sz1 := many1 h1.1 hn
      by_cases hin : at' < num ∧ num < at' + a.sz
      · cases a with
        | pl s => simp only [Stm.sz] at hin; omega
        | cd t x y =>
          obtain ⟨h1, h4⟩ := h1
          have h1' := h1
          unfold Stm.ok at h1
          obtain ⟨_, h5, hx, hy, h6, h7⟩ := h1
          have iz := many_ok 8 (n - 1) x h6 (by omega)
          have i1 := lw_ok k (n - 1) x (num - at' - 1) h6 hx (by omega) (by omega)
          have i2 := lw_ok k (n - 1) y (num - at' - 1 - Stm.szs x) h7 hy (by omega) (by omega)
          have hc : Stm.lwS (.cd t x y) (num - at') = [.cd t (Stm.lws x (num - at' - 1)) (Stm.lws y (num - at' - 1 - Stm.szs x))] := by
            unfold Stm.lwS
            rw [if_pos (by omega)]
          have last : sSet 2 (vDat (eBin addD (eVar 2) (eTup (aCons (eTup (aCons (eC (.str "if")) (aCons (eBin ixD (eVar 4) (eC (.int 1))) (aCons (eVar 7) (aCons (eVar 8) aNil))))) aNil)))) [.dat (bD l), .dat (.int num), .dat (bD fd), .dat (.int at'), .dat (Stm.cd t x y).d, .dat (.int ((Stm.cd t x y).sz : Nat)), .dat (.int (Stm.szs x : Nat)), .dat (bD (Stm.lws x (num - at' - 1))), .dat (bD (Stm.lws y (num - at' - 1 - Stm.szs x)))] =
              .ok .nx [.dat (bD l), .dat (.int num), .dat (bD (fd ++ [.cd t (Stm.lws x (num - at' - 1)) (Stm.lws y (num - at' - 1 - Stm.szs x))])), .dat (.int at'), .dat (Stm.cd t x y).d, .dat (.int ((Stm.cd t x y).sz : Nat)), .dat (.int (Stm.szs x : Nat)), .dat (bD (Stm.lws x (num - at' - 1))), .dat (bD (Stm.lws y (num - at' - 1 - Stm.szs x)))] := by
            refine set_to (dat_to (bin_to rfl (tup_to (aCons_eval (tup_to rfl) rfl)) (addT ?_))) ?_
            · rw [Stm.ds_len]; show fd.length + 1 ≤ 1000; omega
            · rw [show Stm.ds fd ++ [D.tup [.str "if", t, bD (Stm.lws x (num - at' - 1)), bD (Stm.lws y (num - at' - 1 - Stm.szs x))]] = Stm.ds (fd ++ [.cd t (Stm.lws x (num - at' - 1)) (Stm.lws y (num - at' - 1 - Stm.szs x))]) from (Stm.ds_app fd [.cd t (Stm.lws x (num - at' - 1)) (Stm.lws y (num - at' - 1 - Stm.szs x))]).symm]
              rfl
          refine ⟨(fd ++ [.cd t (Stm.lws x (num - at' - 1)) (Stm.lws y (num - at' - 1 - Stm.szs x))], at' + (Stm.cd t x y).sz, .dat (.int ((Stm.cd t x y).sz : Nat)), .dat (.int (Stm.szs x : Nat)), .dat (bD (Stm.lws x (num - at' - 1))), .dat (bD (Stm.lws y (num - at' - 1 - Stm.szs x)))), ?_, h4, ?_, by dsimp only; rw [List.length_append]; simp; omega, Val.free_dat, Val.free_dat, Val.free_dat, Val.free_dat⟩
          · refine seq_to (set_to (call1_to (tup_to rfl) sz1) (put_free rfl v5)) (seq_to (ρ1 := [.dat (bD l), .dat (.int num), .dat (bD (fd ++ [.cd t (Stm.lws x (num - at' - 1)) (Stm.lws y (num - at' - 1 - Stm.szs x))])), .dat (.int at'), .dat (Stm.cd t x y).d, .dat (.int ((Stm.cd t x y).sz : Nat)), .dat (.int (Stm.szs x : Nat)), .dat (bD (Stm.lws x (num - at' - 1))), .dat (bD (Stm.lws y (num - at' - 1 - Stm.szs x)))]) (if_t (bOf_to (chain_t rfl rfl (show some (D.bl (decide (at' < num))) = _ from by rw [decide_eq_true hin.1]) rfl (show some (D.bl (decide (num < at' + (Stm.cd t x y).sz))) = _ from by rw [decide_eq_true hin.2]))) ?_) ?_)
            · exact seq_to (set_to (call1_to rfl iz) (put_free rfl v6)) (seq_to (set_to (call_to (gD_to rfl (gD_to rfl rfl)) rfl i1) (put_free rfl v7)) (seq_to (set_to (call_to (gD_to rfl (gD_to rfl rfl)) rfl i2) (put_free rfl v8)) last))
            · rfl
          dsimp only
          rw [← h2, hc, List.append_assoc, show num - (at' + ((Stm.cd t x y).sz : Int)) = num - at' - (Stm.cd t x y).sz by omega]
      · have hch : ∀ ρ : Rho, ρ = [.dat (bD l), .dat (.int num), .dat (bD fd), .dat (.int at'), .dat a.d, .dat (.int (a.sz : Nat)), x6, x7, x8] → eChain ltD ltD (eVar 3) (eVar 1) (eBin addD (eVar 3) (eVar 5)) ρ = .ok (.bl false) ρ := fun ρ eρ => by
          subst eρ
          by_cases h0 : at' < num
          · exact chain_t rfl rfl (show some (D.bl (decide (at' < num))) = _ from by rw [decide_eq_true h0]) rfl (show some (D.bl (decide (num < at' + a.sz))) = _ from by rw [decide_eq_false (fun z => hin ⟨h0, z⟩)])
          · exact chain_f rfl rfl (show some (D.bl (decide (at' < num))) = _ from by rw [decide_eq_false h0])
        by_cases he : at' = num
        · have hc : Stm.lwS a (num - at') = [] := by
            rw [Stm.lwS_eq]
            cases a <;> simp [Stm.cutS, he]
          refine ⟨(fd, at' + a.sz, .dat (.int (a.sz : Nat)), x6, x7, x8), seq_to (set_to (call1_to (tup_to rfl) sz1) (put_free rfl v5)) (seq_to (if_f (bOf_to (hch _ rfl)) (if_f (bOf_to (bin_to rfl rfl (by rw [neD_int]; simp [he]))) rfl)) rfl), h1.2, ?_, by dsimp only; omega, Val.free_dat, v6, v7, v8⟩
          dsimp only
          rw [← h2, hc, show num - (at' + (a.sz : Int)) = num - at' - a.sz by omega]
          rfl
        · have hc : Stm.lwS a (num - at') = [a] := by
            rw [Stm.lwS_eq]
            exact Stm.cutS_out a _ (by omega)
          refine ⟨(fd ++ [a], at' + a.sz, .dat (.int (a.sz : Nat)), x6, x7, x8), seq_to (set_to (call1_to (tup_to rfl) sz1) (put_free rfl v5)) (seq_to (ρ1 := [.dat (bD l), .dat (.int num), .dat (bD (fd ++ [a])), .dat (.int at'), .dat a.d, .dat (.int (a.sz : Nat)), x6, x7, x8]) (if_f (bOf_to (hch _ rfl)) (if_t (bOf_to (bin_to rfl rfl (by rw [neD_int]; simp [he]))) (set_to (dat_to (bin_to rfl (tup_to rfl) (addT (by rw [Stm.ds_len]; show fd.length + 1 ≤ 1000; omega)))) (by rw [show Stm.ds fd ++ [a.d] = Stm.ds (fd ++ [a]) from (Stm.ds_app fd [a]).symm]; rfl)))) rfl), h1.2, ?_, by dsimp only; rw [List.length_append]; simp; omega, Val.free_dat, v6, v7, v8⟩
          dsimp only
          rw [← h2, hc, List.append_assoc, show num - (at' + (a.sz : Int)) = num - at' - a.sz by omega]
theorem plain_true {s : D} (h : s ∈ plainsL) : f_is_plain [.dat s] = .ok (.dat (.bl true)) [.dat s] := by
  simp only [plainsL, pairsL, List.flatMap_cons, List.flatMap_nil, List.map_cons, List.map_nil, List.append_nil, List.nil_append, List.cons_append, List.mem_cons, List.not_mem_nil, or_false] at h
  rcases h with rfl | rfl | rfl | rfl | rfl | rfl | rfl | rfl | rfl | rfl | rfl | rfl | rfl | rfl | rfl | rfl | rfl | rfl | rfl | rfl | rfl | rfl | rfl | rfl
  all_goals kernel_rfl
theorem test_true {s : D} (h : s ∈ testsL) : f_is_test [.dat s] = .ok (.dat (.bl true)) [.dat s] := by
  simp only [testsL, pairsL, List.flatMap_cons, List.flatMap_nil, List.map_cons, List.map_nil, List.append_nil, List.nil_append, List.cons_append, List.mem_cons, List.not_mem_nil, or_false] at h
  rcases h with rfl | rfl | rfl | rfl | rfl | rfl | rfl | rfl | rfl | rfl | rfl | rfl
  all_goals kernel_rfl
theorem word_if : f_is_word [.dat (.str "if"), .dat (.tup [.str "if"])] = .ok (.dat (.bl true)) [.dat (.str "if"), .dat (.tup [.str "if"])] := by kernel_rfl
theorem isi_tup (ds : List D) : isiF [.tup ds, .cst (.ty "tuple")] = some (.bl true) := by
  show (kitB "tuple" "tuple").map D.bl = _
  kernel_rfl
theorem valid : ∀ (k n : Nat), (∀ s : Stm, s.ok n → 2 * n ≤ k → f_is_statement k [.dat s.d, .dat (.int (n : Nat))] = .ok (.dat (.bl true)) [.dat s.d, .dat (.int (n : Nat))]) ∧
    (∀ l : List Stm, Stm.oks n l → l.length ≤ 8 → 2 * n + 1 ≤ k → f_is_body k [.dat (bD l), .dat (.int (n : Nat))] = .ok (.dat (.bl true)) [.dat (bD l), .dat (.int (n : Nat))])
  | 0, n => ⟨fun s h hk => by
      cases s <;> unfold Stm.ok at h <;> omega, fun l _ _ h => by omega⟩
  | k + 1, n => by
    refine ⟨fun s h hk => ?_, fun l h hl hk => ?_⟩
    · cases s with
      | pl s =>
        unfold Stm.ok at h
        obtain ⟨w, p, q, e, e1, _⟩ := plain_parts h.1
        have pt := plain_true h.1
        subst e
        refine (fn_ret (ρ' := [.dat (.tup [.str w, p, q]), .dat (.int (n : Nat))]) ?_).trans rfl
        show b_is_statement (f_is_body k) [.dat (.tup [.str w, p, q]), .dat (.int (n : Nat))] = _
        unfold b_is_statement
        refine seq_ret (if_t (or_f (not_t (bOf_to (cb_to rfl (isi_tup _)))) (or_t (bOf_to (bin_to (cb_to rfl rfl) rfl (by show neD (.int 3) (.int 4) = _; kernel_rfl))))) (ret_to (dat_to (eAnd_t (bin_to rfl rfl (show some (D.bl (decide ((n : Int) > 0))) = some (.bl true) from by rw [decide_eq_true (by omega)])) (frz_to (call1_to rfl pt))))))
      | cd t a b =>
        unfold Stm.ok at h
        obtain ⟨ht, hn, ha, hb, oa, ob⟩ := h
        have i1 := (valid k (n - 1)).2 a oa ha (by omega)
        have i2 := (valid k (n - 1)).2 b ob hb (by omega)
        have en : ((n - 1 : Nat) : Int) = (n : Int) - 1 := by omega
        rw [en] at i1 i2
        have tt := test_true ht
        refine (fn_ret (ρ' := [.dat (Stm.cd t a b).d, .dat (.int (n : Nat))]) ?_).trans rfl
        show b_is_statement (f_is_body k) [.dat (.tup [.str "if", t, bD a, bD b]), .dat (.int (n : Nat))] = _
        unfold b_is_statement
        refine seq_to (if_f (or_f (not_t (bOf_to (cb_to rfl (isi_tup _)))) (or_f (bOf_to (bin_to (cb_to rfl rfl) rfl (by show neD (.int 4) (.int 4) = _; kernel_rfl))) (not_t (bOf_to (frz_to (call_to (gD_to rfl (gD_to (tup_to rfl) rfl)) rfl word_if)))))) rfl)
          (seq_to (if_f (or_f (bOf_to (bin_to rfl rfl (by rw [eqD_int, decide_eq_false (by omega)]))) (not_t (bOf_to (frz_to (call1_to rfl tt))))) rfl)
            (ret_to (dat_to (eAnd_t (frz_to (call_to (gD_to rfl (gD_to rfl rfl)) rfl i1)) (frz_to (call_to (gD_to rfl (gD_to rfl rfl)) rfl i2))))))
    · refine (fn_ret (ρ' := [.dat (bD l), .dat (.int (n : Nat)), .un]) ?_).trans rfl
      show b_is_body (f_is_statement k) [.dat (bD l), .dat (.int (n : Nat)), .un] = _
      unfold b_is_body
      refine seq_to (if_f (or_f (not_t (bOf_to (cb_to rfl (isi_tup _)))) (bOf_to (bin_to (cb_to rfl rfl) rfl (show some (D.bl (decide (((Stm.ds l).length : Int) > 8))) = some (.bl false) from by rw [decide_eq_false (by rw [Stm.ds_len]; omega)])))) rfl)
        (ret_to (dat_to (bin_to (frzO_to (lc_to (acc := []) (ρ2 := [.dat (bD l), .dat (.int (n : Nat)), .un]) rfl rfl (loopC_none _ fun d hd => ?_) rfl)) rfl nil_eq)))
      rw [Stm.ds_map] at hd
      obtain ⟨s, hs, rfl⟩ := List.mem_map.mp hd
      have st := (valid k n).1 s (Stm.oks_mem h s hs) (by omega)
      exact ⟨_, _, rfl, not_t (bOf_to (frz_to (call_to (gD_to rfl (gD_to rfl rfl)) rfl st))), rfl, rfl⟩
theorem script_t {l : List Stm} (h : Stm.oks 3 l) (hl : l.length ≤ 8) (hs : Stm.szs l ≤ 16) : f_is_script [.dat (bD l)] = .ok (.dat (.bl true)) [.dat (bD l)] := by
  have v := (valid 12 3).2 l h hl (by omega)
  refine (fn_ret (ρ' := [.dat (bD l)]) ?_).trans rfl
  show b_is_script [.dat (bD l)] = _
  unfold b_is_script
  exact ret_to (dat_to (eAnd_t (frz_to (call_to (gD_to rfl (gD_to rfl rfl)) rfl v)) (bin_to (frz_to (call1_to rfl (size_ok 8 3 l h (by omega)))) rfl (le_t (by omega)))))
theorem script_n {l : List Stm} (h : Stm.oks 3 l) (hl : l.length ≤ 8) (hs : Stm.szs l ≤ 16) : f_need_script [.dat (bD l)] = .ok (.dat .non) [.dat (bD l)] := by
  refine (fn_nx (ρ' := [.dat (bD l)]) ?_).trans rfl
  show b_need_script [.dat (bD l)] = _
  unfold b_need_script
  exact if_f (not_t (bOf_to (frz_to (call1_to rfl (script_t h hl hs))))) rfl
theorem script_f (ds : List D) : f_need_script [.dat (.lst ds)] = .exc ⟨"InvalidScript", none⟩ [.dat (.lst ds)] := by
  have e0 : ∀ k, f_is_body (k + 1) [.dat (.lst ds), .dat (.int 3)] = .ok (.dat (.bl false)) [.dat (.lst ds), .dat (.int 3)] := fun k => by
    rw [f_is_body]
    refine (fn_ret (ρ' := [.dat (.lst ds), .dat (.int 3), .un]) ?_).trans rfl
    show b_is_body (f_is_statement k) [.dat (.lst ds), .dat (.int 3), .un] = _
    unfold b_is_body
    exact seq_ret (if_t (or_t (not_f (bOf_to (cb_to rfl (isi_of rfl (by kernel_rfl)))))) (ret_to rfl))
  have e : f_is_body 12 [.dat (.lst ds), .dat (.int 3)] = .ok (.dat (.bl false)) [.dat (.lst ds), .dat (.int 3)] := e0 11
  have e2 : f_is_script [.dat (.lst ds)] = .ok (.dat (.bl false)) [.dat (.lst ds)] := by
    refine (fn_ret (ρ' := [.dat (.lst ds)]) ?_).trans rfl
    show b_is_script [.dat (.lst ds)] = _
    unfold b_is_script
    exact ret_to (dat_to (eAnd_f (frz_to (call_to (gD_to rfl (gD_to rfl rfl)) rfl e))))
  refine (fn_exc (ρ' := [.dat (.lst ds)]) ?_).trans rfl
  show b_need_script [.dat (.lst ds)] = _
  unfold b_need_script
  exact if_t (not_f (bOf_to (frz_to (call1_to rfl e2)))) rfl
/-- what is no number -/
def NoNum (hi : Int) (d : D) : Prop := (∃ i, d = .int i ∧ ¬ (0 ≤ i ∧ i ≤ hi)) ∨ d = .non ∨ d = .bl true ∨ ∃ x, d = .str x
theorem whole_t {i lo hi : Int} (h : lo ≤ i ∧ i ≤ hi) : f_is_whole [.dat (.int i), .dat (.int lo), .dat (.int hi)] = .ok (.dat (.bl true)) [.dat (.int i), .dat (.int lo), .dat (.int hi)] := by
  refine (fn_ret (ρ' := [.dat (.int i), .dat (.int lo), .dat (.int hi)]) ?_).trans rfl
  show b_is_whole [.dat (.int i), .dat (.int lo), .dat (.int hi)] = _
  unfold b_is_whole
  exact ret_to (dat_to (eAnd_t (cb_to rfl (isi_of rfl (by kernel_rfl))) (eAnd_t (eNot_f (cb_to rfl (isi_of rfl (by kernel_rfl)))) (chain_t rfl rfl (le_t h.1) rfl (le_t h.2)))))
theorem whole_f {hi : Int} {d : D} (h : NoNum hi d) : f_is_whole [.dat d, .dat (.int 0), .dat (.int hi)] = .ok (.dat (.bl false)) [.dat d, .dat (.int 0), .dat (.int hi)] := by
  refine (fn_ret (ρ' := [.dat d, .dat (.int 0), .dat (.int hi)]) ?_).trans rfl
  show b_is_whole [.dat d, .dat (.int 0), .dat (.int hi)] = _
  unfold b_is_whole
  rcases h with ⟨i, rfl, h⟩ | rfl | rfl | ⟨x, rfl⟩
  · refine ret_to (dat_to (eAnd_t (cb_to rfl (isi_of rfl (by kernel_rfl))) (eAnd_t (eNot_f (cb_to rfl (isi_of rfl (by kernel_rfl)))) ?_)))
    by_cases h0 : 0 ≤ i
    · exact chain_t rfl rfl (le_t h0) rfl (le_f fun z => h ⟨h0, z⟩)
    · exact chain_f rfl rfl (le_f h0)
  · exact ret_to (dat_to (eAnd_f (cb_to rfl (isi_of rfl (by kernel_rfl)))))
  · exact ret_to (dat_to (eAnd_t (cb_to rfl (isi_of rfl (by kernel_rfl))) (eAnd_f (eNot_t (cb_to rfl (isi_of rfl (by kernel_rfl)))))))
  · exact ret_to (dat_to (eAnd_f (cb_to rfl (isi_of rfl (by kernel_rfl)))))
theorem num_t {i hi : Int} (h : 0 ≤ i ∧ i ≤ hi) : f_need_number [.dat (.int i), .dat (.int 0), .dat (.int hi)] = .ok (.dat .non) [.dat (.int i), .dat (.int 0), .dat (.int hi)] := by
  refine (fn_nx (ρ' := [.dat (.int i), .dat (.int 0), .dat (.int hi)]) ?_).trans rfl
  show b_need_number [.dat (.int i), .dat (.int 0), .dat (.int hi)] = _
  unfold b_need_number
  exact if_f (not_t (bOf_to (frz_to (call_to (gD_to rfl (gD_to rfl (gD_to rfl rfl))) rfl (whole_t h))))) rfl
theorem num_f {hi : Int} {d : D} (h : NoNum hi d) : f_need_number [.dat d, .dat (.int 0), .dat (.int hi)] = .exc ⟨"InvalidNumber", none⟩ [.dat d, .dat (.int 0), .dat (.int hi)] := by
  refine (fn_exc (ρ' := [.dat d, .dat (.int 0), .dat (.int hi)]) ?_).trans rfl
  show b_need_number [.dat d, .dat (.int 0), .dat (.int hi)] = _
  unfold b_need_number
  exact if_t (not_f (bOf_to (frz_to (call_to (gD_to rfl (gD_to rfl (gD_to rfl rfl))) rfl (whole_f h))))) rfl
section
variable {l : List Stm} (h : Stm.oks 3 l) (hl : l.length ≤ 8) (hs : Stm.szs l ≤ 16)
include h hl hs
theorem wo_t {num : Int} (hn : 0 ≤ num ∧ num < Stm.szs l) : f_without [.dat (bD l), .dat (.int num)] = .ok (.dat (bD (Stm.cuts l num))) [.dat (bD l), .dat (.int num)] := by
  have c := cut_ok 8 3 l 0 num h hl (by omega) (by omega)
  rw [Int.sub_zero] at c
  refine (fn_ret (ρ' := [.dat (bD l), .dat (.int num)]) ?_).trans rfl
  show b_without [.dat (bD l), .dat (.int num)] = _
  unfold b_without
  exact seq_to (drop_to (call1_to rfl (script_n h hl hs))) (seq_to (drop_to (call_to (gD_to rfl (gD_to rfl (gD_to (bin_to (frz_to (call1_to rfl (size_ok 8 3 l h (by omega)))) rfl rfl) rfl))) rfl (num_t (by omega)))) (ret_to (call_to (gD_to rfl (gD_to rfl (gD_to rfl rfl))) rfl c)))
theorem wo_f {d : D} (hd : NoNum ((Stm.szs l : Int) - 1) d) : f_without [.dat (bD l), .dat d] = .exc ⟨"InvalidNumber", none⟩ [.dat (bD l), .dat d] := by
  refine (fn_exc (ρ' := [.dat (bD l), .dat d]) ?_).trans rfl
  show b_without [.dat (bD l), .dat d] = _
  unfold b_without
  exact seq_to (drop_to (call1_to rfl (script_n h hl hs))) (seq_exc (drop_exc (call_exc (gD_to rfl (gD_to rfl (gD_to (bin_to (frz_to (call1_to rfl (size_ok 8 3 l h (by omega)))) rfl rfl) rfl))) rfl (num_f hd))))
end
theorem wo_l (ds : List D) : f_without [.dat (.lst ds), .dat .non] = .exc ⟨"InvalidScript", none⟩ [.dat (.lst ds), .dat .non] := by
  refine (fn_exc (ρ' := [.dat (.lst ds), .dat .non]) ?_).trans rfl
  show b_without [.dat (.lst ds), .dat .non] = _
  unfold b_without
  exact seq_exc (drop_exc (call_exc (gD_to rfl rfl) rfl (script_f ds)))
end Cd.K02

set_option Elab.async false
set_option linter.all false
set_option autoImplicit false
set_option maxRecDepth 100000
set_option maxHeartbeats 1000000
namespace Cd.K02
open PySem PySem.Spec L2 L2H LamX Cd
/-! ### the law's numbers -/
theorem under_ok (a b many : Int) (h : 0 < many) (hm : many ≤ 1000) : ∃ r a' b', 0 ≤ r ∧ r < many ∧ f_law_under [VT a b, .dat (.int many)] = .ok (.dat (.int r)) [VT a' b', .dat (.int many)] := by
  by_cases ha : a > 0
  · refine ⟨a.fmod many, a.fdiv many, b, Int.fmod_nonneg_of_pos _ h, Int.fmod_lt_of_pos _ h, (fn_ret (ρ' := [VT (a.fdiv many) b, .dat (.int many), .dat (.int (a.fmod many)), .un]) ?_).trans rfl⟩
    show b_law_under [VT a b, .dat (.int many), .un, .un] = _
    unfold b_law_under
    exact seq_ret (if_t (bOf_to (bin_to rfl rfl (gt_t ha))) (seq_to (set_to (dat_to (bin_to (cb_to rfl rfl) rfl (mod_to (by omega)))) rfl) (seq_to (bind_to (bin_to rfl rfl (fdiv_to (by omega) (by omega))) rfl) (ret_to rfl))))
  · have p1 : (0 : Int) < 2147483629 := by decide
    have q1 := Int.fmod_nonneg_of_pos (b * 39373 + 101) p1
    have q2 := Int.fmod_lt_of_pos (b * 39373 + 101) p1
    generalize hc : (b * 39373 + 101).fmod 2147483629 = c at q1 q2
    refine ⟨(((c * (c.fdiv 5 + 9)).fmod 2147483587).fdiv 32).fmod many, a, c, Int.fmod_nonneg_of_pos _ h, Int.fmod_lt_of_pos _ h, (fn_ret (ρ' := [VT a c, .dat (.int many), .un, .dat (.int ((c * (c.fdiv 5 + 9)).fmod 2147483587))]) ?_).trans rfl⟩
    show b_law_under [VT a b, .dat (.int many), .un, .un] = _
    unfold b_law_under
    refine seq_to (if_f (bOf_to (bin_to rfl rfl (gt_f ha))) rfl) (seq_to (ρ1 := [VT a c, .dat (.int many), .un, .un]) (bind_to (bin_to (cb_to (aCons_eval (bin_to (bin_to rfl rfl (mul_r (by decide))) rfl rfl) rfl) rfl) rfl (mod_to (by decide))) (by rw [hc]; rfl)) (seq_to (set_to (dat_to (bin_to (cb_to (aCons_eval (bin_to rfl (bin_to (bin_to rfl rfl (fdiv_to (by decide) (by decide))) rfl rfl) (mul_l (by omega))) rfl) rfl) rfl (mod_to (by decide)))) rfl) (ret_to (dat_to (bin_to (cb_to (aCons_eval (bin_to rfl rfl (fdiv_to (by decide) (by decide))) rfl) rfl) rfl (mod_to (by omega)))))))
theorem some_ok (a b : Int) (ds : List D) (h : 0 < ds.length) (hm : ds.length ≤ 1000) : ∃ d ∈ ds, ∃ a' b', f_law_some [VT a b, .dat (.lst ds)] = .ok (.dat d) [VT a' b', .dat (.lst ds)] := by
  obtain ⟨r, a', b', h0, h1, e⟩ := under_ok a b ds.length (by omega) (by omega)
  obtain ⟨d, hd, ed⟩ := atI_lt (xs := ds) h0 h1
  refine ⟨d, hd, a', b', (fn_ret (ρ' := [VT a' b', .dat (.lst ds)]) ?_).trans rfl⟩
  show b_law_some [VT a b, .dat (.lst ds)] = _
  unfold b_law_some
  have c : eFrz (eCall f_law_under (gO 0 (gD (eCB lenF (aCons (eVar 1) aNil)) gNilA))) [VT a b, .dat (.lst ds)] = .ok (.int r) [VT a' b', .dat (.lst ds)] := frz_to (call_to (ρ1 := [VT a b, .dat (.lst ds)]) (as := [.o 0, .d (.int ds.length)]) (gO_to rfl (gD_to rfl rfl)) rfl e)
  exact ret_to (dat_to (bin_to rfl c ed))
theorem two_ok (a b : Int) : ∃ p ∈ pairsL, ∃ a' b', f_law_two [VT a b] = .ok (.dat (.tup [.str p.1, .str p.2])) [VT a' b'] := by
  obtain ⟨d, hd, a1, b1, e1⟩ := some_ok a b [.str "a", .str "b", .str "c"] (by decide) (by decide)
  have key : ∀ x : Str, ∀ o1 o2 : Str, d = .str x → (x, o1) ∈ pairsL → (x, o2) ∈ pairsL → (eLc [2] (itL (eLst (aCons (eC (.str "a")) (aCons (eC (.str "b")) (aCons (eC (.str "c")) aNil))))) (gNm 2) (bOf (eBin neD (eVar 2) (eVar 1))) (eVar 2)) [VT a1 b1, .dat (.str x), .un] = .ok (.own false (.lst [.str o1, .str o2])) [VT a1 b1, .dat (.str x), .un] →
      ∃ p ∈ pairsL, ∃ a' b', f_law_two [VT a b] = .ok (.dat (.tup [.str p.1, .str p.2])) [VT a' b'] := fun x o1 o2 ed m1 m2 el => by
    subst ed
    obtain ⟨d2, hd2, a2, b2, e2⟩ := some_ok a1 b1 [.str o1, .str o2] (by show 0 < 2; decide) (by show 2 ≤ 1000; decide)
    have fin : ∀ o, (x, o) ∈ pairsL → d2 = .str o → ∃ p ∈ pairsL, ∃ a' b', f_law_two [VT a b] = .ok (.dat (.tup [.str p.1, .str p.2])) [VT a' b'] := fun o mo eo => by
      subst eo
      refine ⟨(x, o), mo, a2, b2, (fn_ret (ρ' := [VT a2 b2, .dat (.str x), .un]) ?_).trans rfl⟩
      show b_law_two [VT a b, .un, .un] = _
      unfold b_law_two
      exact seq_to (set_to (call_to (as := [.o 0, .d (.lst [.str "a", .str "b", .str "c"])]) rfl rfl e1) rfl) (ret_to (dat_to (tup_to (aCons_eval rfl (aCons_eval (frz_to (call_to (gO_to rfl (gD_to (frzO_to el) rfl)) rfl e2)) rfl)))))
    simp only [List.mem_cons, List.not_mem_nil, or_false] at hd2
    rcases hd2 with z | z
    · exact fin o1 m1 z
    · exact fin o2 m2 z
  simp only [List.mem_cons, List.not_mem_nil, or_false] at hd
  rcases hd with rfl | rfl | rfl
  · exact key "a" "b" "c" rfl (by decide) (by decide) (by kernel_rfl)
  · exact key "b" "a" "c" rfl (by decide) (by decide) (by kernel_rfl)
  · exact key "c" "a" "b" rfl (by decide) (by decide) (by kernel_rfl)
theorem pair_in {w : Str} (hw : w = "copy" ∨ w = "tie" ∨ w = "cut") {p : Str × Str} (hp : p ∈ pairsL) : D.tup [.str w, .str p.1, .str p.2] ∈ plainsL := by
  refine List.mem_append_left _ (List.mem_flatMap.mpr ⟨w, ?_, List.mem_map.mpr ⟨p, hp, rfl⟩⟩)
  rcases hw with rfl | rfl | rfl <;> simp
theorem fold_in {p : Str × Str} (hp : p ∈ pairsL) {i : Int} (hi : i = 2 ∨ i = 3) : D.tup [.str "fold", .str p.1, .int i] ∈ plainsL := by
  refine List.mem_append_right _ (List.mem_flatMap.mpr ⟨p.1, ?_, List.mem_map.mpr ⟨i, ?_, rfl⟩⟩)
  · simp only [pairsL, List.mem_cons, List.not_mem_nil, or_false] at hp
    rcases hp with rfl | rfl | rfl | rfl | rfl | rfl <;> simp
  · rcases hi with rfl | rfl <;> simp
theorem plain_ok (a b : Int) : ∃ s ∈ plainsL, ∃ a' b', f_law_plain [VT a b] = .ok (.dat s) [VT a' b'] := by
  obtain ⟨d, hd, a1, b1, e1⟩ := some_ok a b [.str "copy", .str "tie", .str "cut", .str "cut", .str "fold", .str "fold"] (by decide) (by decide)
  obtain ⟨p, hp, a2, b2, e2⟩ := two_ok a1 b1
  have s1 : ∀ x : Str, d = .str x → ∀ r, (sSeq (sIf (bOf (eBin eqD (eVar 1) (eC (.str "fold")))) (sRet (vDat (eTup (aCons (eC (.str "fold")) (aCons (eVar 2) (aCons (eFrz (eCall f_law_some (gO 0 (gD (eLst (aCons (eC (.int 2)) (aCons (eC (.int 2)) (aCons (eC (.int 3)) aNil)))) gNilA)))) aNil)))))) sNx)
    (sSeq (sIf (bAnd (bOf (eBin eqD (eVar 1) (eC (.str "tie")))) (bOf (eBin eqD (eFrz (eCall f_law_under (gO 0 (gD (eC (.int 2)) gNilA)))) (eC (.int 0))))) (sRet (vDat (eTup (aCons (eC (.str "copy")) (aCons (eC (.str "c")) (aCons (eFrz (eCall f_law_some (gO 0 (gD (eLst (aCons (eC (.str "a")) (aCons (eC (.str "b")) aNil))) gNilA)))) aNil)))))) sNx)
    (sRet (vDat (eTup (aCons (eVar 1) (aCons (eVar 2) (aCons (eVar 3) aNil)))))))) [VT a2 b2, .dat (.str x), .dat (.str p.1), .dat (.str p.2)] = r → b_law_plain [VT a b, .un, .un, .un] = r := fun x ed r hr => by
    subst ed
    unfold b_law_plain
    exact seq_to (set_to (call_to (as := [.o 0, .d (.lst [.str "copy", .str "tie", .str "cut", .str "cut", .str "fold", .str "fold"])]) rfl rfl e1) rfl) (seq_to (asg_to (frz_to (call_to (as := [.o 0]) rfl rfl e2)) (pair_to rfl rfl)) hr)
  have run : ∀ s a' b' x2 x3 x4, s ∈ plainsL → b_law_plain [VT a b, .un, .un, .un] = .ok (.ret (.dat s)) [VT a' b', x2, x3, x4] → ∃ s ∈ plainsL, ∃ a' b', f_law_plain [VT a b] = .ok (.dat s) [VT a' b'] := fun s a' b' x2 x3 x4 hs e => ⟨s, hs, a', b', (fn_ret (ρ' := [VT a' b', x2, x3, x4]) e).trans rfl⟩
  have plainly : ∀ x : Str, (x = "copy" ∨ x = "cut") → d = .str x → eqD (.str x) (.str "fold") = some (.bl false) → eqD (.str x) (.str "tie") = some (.bl false) → ∃ s ∈ plainsL, ∃ a' b', f_law_plain [VT a b] = .ok (.dat s) [VT a' b'] := fun x hx ed q1 q2 =>
    run _ _ _ _ _ _ (pair_in (hx.elim .inl fun z => .inr (.inr z)) hp) (s1 x ed _ (seq_to (if_f (bOf_to (bin_to rfl rfl q1)) rfl) (seq_to (if_f (and_f (bOf_to (bin_to rfl rfl q2))) rfl) (ret_to (dat_to (tup_to rfl))))))
  have folds : d = .str "fold" → ∃ s ∈ plainsL, ∃ a' b', f_law_plain [VT a b] = .ok (.dat s) [VT a' b'] := fun ed => by
    obtain ⟨i, hi, a3, b3, e3⟩ := some_ok a2 b2 [.int 2, .int 2, .int 3] (by decide) (by decide)
    have fin : ∀ j : Int, (j = 2 ∨ j = 3) → i = .int j → ∃ s ∈ plainsL, ∃ a' b', f_law_plain [VT a b] = .ok (.dat s) [VT a' b'] := fun j hj ei => by
      subst ei
      exact run _ _ _ _ _ _ (fold_in hp hj) (s1 _ ed _ (seq_ret (if_t (bOf_to (bin_to rfl rfl (by kernel_rfl))) (ret_to (dat_to (tup_to (aCons_eval rfl (aCons_eval rfl (aCons_eval (frz_to (call_to (as := [.o 0, .d (.lst [.int 2, .int 2, .int 3])]) rfl rfl e3)) rfl)))))))))
    simp only [List.mem_cons, List.not_mem_nil, or_false] at hi
    rcases hi with z | z | z
    · exact fin 2 (.inl rfl) z
    · exact fin 2 (.inl rfl) z
    · exact fin 3 (.inr rfl) z
  have ties : d = .str "tie" → ∃ s ∈ plainsL, ∃ a' b', f_law_plain [VT a b] = .ok (.dat s) [VT a' b'] := fun ed => by
    obtain ⟨r, a3, b3, h0, h1, e3⟩ := under_ok a2 b2 2 (by decide) (by decide)
    by_cases hr : r = 0
    · subst hr
      obtain ⟨i, hi, a4, b4, e4⟩ := some_ok a3 b3 [.str "a", .str "b"] (by decide) (by decide)
      have fin : ∀ y : Str, (("c", y) : Str × Str) ∈ pairsL → i = .str y → ∃ s ∈ plainsL, ∃ a' b', f_law_plain [VT a b] = .ok (.dat s) [VT a' b'] := fun y hy ei => by
        subst ei
        exact run _ _ _ _ _ _ (pair_in (w := "copy") (.inl rfl) hy) (s1 _ ed _ (seq_to (if_f (bOf_to (bin_to rfl rfl (by kernel_rfl))) rfl) (seq_ret (if_t (and_t (bOf_to (bin_to rfl rfl (by kernel_rfl))) (bOf_to (bin_to (frz_to (call_to (as := [.o 0, .d (.int 2)]) rfl rfl e3)) rfl (eq_t rfl)))) (ret_to (dat_to (tup_to (aCons_eval rfl (aCons_eval rfl (aCons_eval (frz_to (call_to (as := [.o 0, .d (.lst [.str "a", .str "b"])]) rfl rfl e4)) rfl))))))))))
      simp only [List.mem_cons, List.not_mem_nil, or_false] at hi
      rcases hi with z | z
      · exact fin "a" (by decide) z
      · exact fin "b" (by decide) z
    · exact run _ _ _ _ _ _ (pair_in (w := "tie") (.inr (.inl rfl)) hp) (s1 _ ed _ (seq_to (if_f (bOf_to (bin_to rfl rfl (by kernel_rfl))) rfl) (seq_to (if_f (and_t (bOf_to (bin_to rfl rfl (by kernel_rfl))) (bOf_to (bin_to (frz_to (call_to (as := [.o 0, .d (.int 2)]) rfl rfl e3)) rfl (eq_f hr)))) rfl) (ret_to (dat_to (tup_to rfl))))))
  simp only [List.mem_cons, List.not_mem_nil, or_false] at hd
  rcases hd with z | z | z | z | z | z
  · exact plainly _ (.inl rfl) z (by kernel_rfl) (by kernel_rfl)
  · exact ties z
  · exact plainly _ (.inr rfl) z (by kernel_rfl) (by kernel_rfl)
  · exact plainly _ (.inr rfl) z (by kernel_rfl) (by kernel_rfl)
  · exact folds z
  · exact folds z
structure BS where
  a : Int
  b : Int
  many : Int
  fd : List Stm
  x4 : Val
  x5 : Val
  x6 : Val
  x7 : Val
  x8 : Val
  x9 : Val
  x10 : Val
def BS.R (n : Nat) (s : BS) : Rho := [VT s.a s.b, .dat (.int s.many), .dat (.int (n : Nat)), .dat (bD s.fd), s.x4, s.x5, s.x6, s.x7, s.x8, s.x9, s.x10]
def BS.fr (s : BS) : Prop := s.x4.free ∧ s.x5.free ∧ s.x6.free ∧ s.x7.free ∧ s.x8.free ∧ s.x9.free ∧ s.x10.free
theorem test_in {w : Str} (hw : w = "longer" ∨ w = "same") {p : Str × Str} (hp : p ∈ pairsL) : D.tup [.str w, .str p.1, .str p.2] ∈ testsL := by
  refine List.mem_flatMap.mpr ⟨w, ?_, List.mem_map.mpr ⟨p, hp, rfl⟩⟩
  rcases hw with rfl | rfl <;> simp
/-- the inner part of a turn: a test with two bodies -/
theorem inner_ok (k n : Nat) (hn : 1 ≤ n) (hn8 : n < 8) (ih : ∀ (M a b : Int), 2 ≤ n → 0 ≤ M → M ≤ 900 → ∃ l a' b', Stm.oks (n - 1) l ∧ l.length ≤ 8 ∧ (Stm.szs l : Int) ≤ M ∧ f_law_body k [VT a b, .dat (.int M), .dat (.int ((n : Int) - 1))] = .ok (.dat (bD l)) [VT a' b', .dat (.int M), .dat (.int ((n : Int) - 1))])
    (s : BS) (hs : s.fr) (hm : 0 < s.many) (hm9 : s.many ≤ 900) : ∃ (s' : BS) (st : Stm), s'.fr ∧ s'.many = s.many ∧ s'.fd = s.fd ∧ s'.x4 = .dat st.d ∧ st.ok n ∧ (st.sz : Int) ≤ s.many ∧
      (sSeq (sAsg (eFrz (eCall f_law_some (gO 0 (gD (eLst (aCons (eTup (aCons (eC (.str "a")) (aCons (eC (.str "b")) aNil))) (aCons (eTup (aCons (eC (.str "a")) (aCons (eC (.str "b")) aNil))) (aCons (eTup (aCons (eC (.str "b")) (aCons (eC (.str "a")) aNil))) (aCons (eFrz (eCall f_law_two (gO 0 gNilA))) aNil))))) gNilA)))) (gTp 2 (gCons (gNm 5) (gCons (gNm 6) gNil))))
    (sSeq (sSet 7 (vDat (eIf (bOf (eBin gtD (eVar 2) (eC (.int 1)))) (eFrz (eCall (f_law_body k) (gO 0 (gD (eFrz (eCall f_law_under (gO 0 (gD (eVar 1) gNilA)))) (gD (eBin subD (eVar 2) (eC (.int 1))) gNilA))))) (eTup aNil))))
    (sSeq (sSet 8 (vDat (eBin subD (eVar 1) (eFrz (eCall (f_law_many 8) (gD (eVar 7) gNilA))))))
    (sSeq (sSet 9 (vDat (eTup aNil)))
    (sSeq (sIf (bOf (eBin gtD (eVar 2) (eC (.int 1)))) (sSet 9 (eCall (f_law_body k) (gO 0 (gD (eFrz (eCall f_law_under (gO 0 (gD (eVar 8) gNilA)))) (gD (eBin subD (eVar 2) (eC (.int 1))) gNilA))))) sNx)
    (sSeq (sSet 10 (vDat (eTup (aCons (eFrz (eCall f_law_some (gO 0 (gD (eLst (aCons (eC (.str "longer")) (aCons (eC (.str "longer")) (aCons (eC (.str "same")) aNil)))) gNilA)))) (aCons (eVar 5) (aCons (eVar 6) aNil))))))
    (sSet 4 (vDat (eTup (aCons (eC (.str "if")) (aCons (eVar 10) (aCons (eVar 7) (aCons (eVar 9) aNil))))))))))))) (s.R n) = .ok .nx (s'.R n) := by
  obtain ⟨a, b, many, fd, x4, x5, x6, x7, x8, x9, x10⟩ := s
  obtain ⟨v4, v5, v6, v7, v8, v9, v10⟩ := hs
  dsimp only at hm hm9 v4 v5 v6 v7 v8 v9 v10 ⊢
  obtain ⟨p0, hp0, a1, b1, e1⟩ := two_ok a b
  obtain ⟨d, hd, a2, b2, e2⟩ := some_ok a1 b1 [.tup [.str "a", .str "b"], .tup [.str "a", .str "b"], .tup [.str "b", .str "a"], .tup [.str p0.1, .str p0.2]] (by show 0 < 4; decide) (by show 4 ≤ 1000; decide)
  have pick : ∃ p ∈ pairsL, d = .tup [.str p.1, .str p.2] := by
    simp only [List.mem_cons, List.not_mem_nil, or_false] at hd
    rcases hd with z | z | z | z
    · exact ⟨("a", "b"), by decide, z⟩
    · exact ⟨("a", "b"), by decide, z⟩
    · exact ⟨("b", "a"), by decide, z⟩
    · exact ⟨p0, hp0, z⟩
  obtain ⟨p, hp, rfl⟩ := pick
  -- the first body
  have first : ∃ l a3 b3, Stm.oks (n - 1) l ∧ l.length ≤ 8 ∧ (Stm.szs l : Int) < many ∧ (eIf (bOf (eBin gtD (eVar 2) (eC (.int 1)))) (eFrz (eCall (f_law_body k) (gO 0 (gD (eFrz (eCall f_law_under (gO 0 (gD (eVar 1) gNilA)))) (gD (eBin subD (eVar 2) (eC (.int 1))) gNilA))))) (eTup aNil)) [VT a2 b2, .dat (.int many), .dat (.int (n : Nat)), .dat (bD fd), x4, .dat (.str p.1), .dat (.str p.2), x7, x8, x9, x10] =
      .ok (bD l) [VT a3 b3, .dat (.int many), .dat (.int (n : Nat)), .dat (bD fd), x4, .dat (.str p.1), .dat (.str p.2), x7, x8, x9, x10] := by
    by_cases h2 : 2 ≤ n
    · obtain ⟨r, a3, b3, h0, h1, e3⟩ := under_ok a2 b2 many hm (by omega)
      obtain ⟨l, a4, b4, q1, q2, q3, e4⟩ := ih r a3 b3 h2 h0 (by omega)
      have cu : eFrz (eCall f_law_under (gO 0 (gD (eVar 1) gNilA))) [VT a2 b2, .dat (.int many), .dat (.int (n : Nat)), .dat (bD fd), x4, .dat (.str p.1), .dat (.str p.2), x7, x8, x9, x10] = .ok (.int r) [VT a3 b3, .dat (.int many), .dat (.int (n : Nat)), .dat (bD fd), x4, .dat (.str p.1), .dat (.str p.2), x7, x8, x9, x10] := frz_to (call_to (ρ1 := [VT a2 b2, .dat (.int many), .dat (.int (n : Nat)), .dat (bD fd), x4, .dat (.str p.1), .dat (.str p.2), x7, x8, x9, x10]) (as := [.o 0, .d (.int many)]) rfl rfl e3)
      have ca : gO 0 (gD (eFrz (eCall f_law_under (gO 0 (gD (eVar 1) gNilA)))) (gD (eBin subD (eVar 2) (eC (.int 1))) gNilA)) [VT a2 b2, .dat (.int many), .dat (.int (n : Nat)), .dat (bD fd), x4, .dat (.str p.1), .dat (.str p.2), x7, x8, x9, x10] = .ok [.o 0, .d (.int r), .d (.int ((n : Int) - 1))] [VT a3 b3, .dat (.int many), .dat (.int (n : Nat)), .dat (bD fd), x4, .dat (.str p.1), .dat (.str p.2), x7, x8, x9, x10] := gO_to rfl (gD_to cu rfl)
      exact ⟨l, a4, b4, q1, q2, by omega, eIf_t (bOf_to (bin_to rfl rfl (gt_t (by omega)))) (frz_to (call_to ca rfl e4))⟩
    · exact ⟨[], a2, b2, by unfold Stm.oks; trivial, Nat.zero_le _, by simpa [Stm.szs] using hm, eIf_f (bOf_to (bin_to rfl rfl (gt_f (by omega)))) rfl⟩
  obtain ⟨l1, a3, b3, o1, n1, z1, e3⟩ := first
  have em := many_ok 8 (n - 1) l1 o1 (by omega)
  have second : ∃ l a4 b4, Stm.oks (n - 1) l ∧ l.length ≤ 8 ∧ (Stm.szs l : Int) < many - Stm.szs l1 ∧ (sIf (bOf (eBin gtD (eVar 2) (eC (.int 1)))) (sSet 9 (eCall (f_law_body k) (gO 0 (gD (eFrz (eCall f_law_under (gO 0 (gD (eVar 8) gNilA)))) (gD (eBin subD (eVar 2) (eC (.int 1))) gNilA))))) sNx) [VT a3 b3, .dat (.int many), .dat (.int (n : Nat)), .dat (bD fd), x4, .dat (.str p.1), .dat (.str p.2), .dat (bD l1), .dat (.int (many - Stm.szs l1)), .dat (.tup []), x10] =
      .ok .nx [VT a4 b4, .dat (.int many), .dat (.int (n : Nat)), .dat (bD fd), x4, .dat (.str p.1), .dat (.str p.2), .dat (bD l1), .dat (.int (many - Stm.szs l1)), .dat (bD l), x10] := by
    by_cases h2 : 2 ≤ n
    · obtain ⟨r, a5, b5, h0, h1, e5⟩ := under_ok a3 b3 (many - Stm.szs l1) (by omega) (by omega)
      obtain ⟨l, a4, b4, q1, q2, q3, e4⟩ := ih r a5 b5 h2 h0 (by omega)
      exact ⟨l, a4, b4, q1, q2, by omega, if_t (bOf_to (bin_to rfl rfl (gt_t (by omega)))) (set_to (call_to (ρ1 := [VT a5 b5, .dat (.int many), .dat (.int (n : Nat)), .dat (bD fd), x4, .dat (.str p.1), .dat (.str p.2), .dat (bD l1), .dat (.int (many - Stm.szs l1)), .dat (.tup []), x10]) (as := [.o 0, .d (.int r), .d (.int ((n : Int) - 1))]) (gO_to rfl (gD_to (frz_to (call_to (as := [.o 0, .d (.int (many - Stm.szs l1))]) rfl rfl e5)) (gD_to rfl rfl))) rfl e4) rfl)⟩
    · exact ⟨[], a3, b3, by unfold Stm.oks; trivial, Nat.zero_le _, by simp only [Stm.szs]; omega, if_f (bOf_to (bin_to rfl rfl (gt_f (by omega)))) rfl⟩
  obtain ⟨l2, a4, b4, o2, n2, z2, e4⟩ := second
  obtain ⟨dw, hdw, a5, b5, e5⟩ := some_ok a4 b4 [.str "longer", .str "longer", .str "same"] (by decide) (by decide)
  have pickw : ∃ w : Str, (w = "longer" ∨ w = "same") ∧ dw = .str w := by
    simp only [List.mem_cons, List.not_mem_nil, or_false] at hdw
    rcases hdw with z | z | z
    · exact ⟨_, .inl rfl, z⟩
    · exact ⟨_, .inl rfl, z⟩
    · exact ⟨_, .inr rfl, z⟩
  obtain ⟨w, hw, rfl⟩ := pickw
  refine ⟨⟨a5, b5, many, fd, .dat (Stm.cd (.tup [.str w, .str p.1, .str p.2]) l1 l2).d, .dat (.str p.1), .dat (.str p.2), .dat (bD l1), .dat (.int (many - Stm.szs l1)), .dat (bD l2), .dat (.tup [.str w, .str p.1, .str p.2])⟩, .cd (.tup [.str w, .str p.1, .str p.2]) l1 l2, ⟨Val.free_dat, Val.free_dat, Val.free_dat, Val.free_dat, Val.free_dat, Val.free_dat, Val.free_dat⟩, rfl, rfl, rfl, ?_, ?_, ?_⟩
  · unfold Stm.ok
    exact ⟨test_in hw hp, hn, n1, n2, o1, o2⟩
  · simp only [Stm.sz]; omega
  · unfold BS.R
    dsimp only
    refine seq_to (ρ1 := [VT a2 b2, .dat (.int many), .dat (.int (n : Nat)), .dat (bD fd), x4, .dat (.str p.1), .dat (.str p.2), x7, x8, x9, x10]) (asg_to (frz_to (call_to (ρ1 := [VT a1 b1, .dat (.int many), .dat (.int (n : Nat)), .dat (bD fd), x4, x5, x6, x7, x8, x9, x10]) (as := [.o 0, .d (.lst [.tup [.str "a", .str "b"], .tup [.str "a", .str "b"], .tup [.str "b", .str "a"], .tup [.str p0.1, .str p0.2]])]) (gO_to rfl (gD_to (lst_to (aCons_eval rfl (aCons_eval rfl (aCons_eval rfl (aCons_eval (frz_to (call_to (as := [.o 0]) rfl rfl e1)) rfl))))) rfl)) rfl e2)) (pair_to (put_free rfl v5) (put_free rfl v6))) ?_
    refine seq_to (set_to (dat_to e3) (put_free rfl v7)) ?_
    refine seq_to (set_to (dat_to (bin_to rfl (frz_to (call1_to rfl em)) rfl)) (put_free rfl v8)) ?_
    refine seq_to (set_to rfl (put_free rfl v9)) ?_
    refine seq_to e4 ?_
    refine seq_to (set_to (dat_to (tup_to (aCons_eval (frz_to (call_to (as := [.o 0, .d (.lst [.str "longer", .str "longer", .str "same"])]) rfl rfl e5)) rfl))) (put_free rfl v10)) ?_
    exact set_to (dat_to (tup_to rfl)) (put_free rfl v4)
theorem body_ok : ∀ (k n : Nat), 1 ≤ n → n ≤ k → n < 8 → ∀ (M a b : Int), 0 ≤ M → M ≤ 900 → ∃ l a' b', Stm.oks n l ∧ l.length ≤ 8 ∧ (Stm.szs l : Int) ≤ M ∧ f_law_body k [VT a b, .dat (.int M), .dat (.int (n : Nat))] = .ok (.dat (bD l)) [VT a' b', .dat (.int M), .dat (.int (n : Nat))]
  | 0, n, h1, h2, _ => by omega
  | k + 1, n, h1, h2, h8 => fun M a b hM hM9 => by
    have ih : ∀ (M a b : Int), 2 ≤ n → 0 ≤ M → M ≤ 900 → ∃ l a' b', Stm.oks (n - 1) l ∧ l.length ≤ 8 ∧ (Stm.szs l : Int) ≤ M ∧ f_law_body k [VT a b, .dat (.int M), .dat (.int ((n : Int) - 1))] = .ok (.dat (bD l)) [VT a' b', .dat (.int M), .dat (.int ((n : Int) - 1))] := fun M a b hn h0 h9 => by
      have q := body_ok k (n - 1) (by omega) (by omega) (by omega) M a b h0 h9
      rw [show ((n - 1 : Nat) : Int) = (n : Int) - 1 by omega] at q
      exact q
    have loop := while_rel (t := bAnd (bOf (eBin gtD (eVar 1) (eC (.int 0)))) (bOf (eBin ltD (eCB lenF (aCons (eVar 3) aNil)) (eC (.int 8))))) (mb := sSeq (sSet 4 (eCall f_law_plain (gO 0 gNilA)))
    (sSeq (sIf (bOf (eBin eqD (eFrz (eCall f_law_under (gO 0 (gD (eC (.int 4)) gNilA)))) (eC (.int 0)))) (sSeq (sAsg (eFrz (eCall f_law_some (gO 0 (gD (eLst (aCons (eTup (aCons (eC (.str "a")) (aCons (eC (.str "b")) aNil))) (aCons (eTup (aCons (eC (.str "a")) (aCons (eC (.str "b")) aNil))) (aCons (eTup (aCons (eC (.str "b")) (aCons (eC (.str "a")) aNil))) (aCons (eFrz (eCall f_law_two (gO 0 gNilA))) aNil))))) gNilA)))) (gTp 2 (gCons (gNm 5) (gCons (gNm 6) gNil))))
    (sSeq (sSet 7 (vDat (eIf (bOf (eBin gtD (eVar 2) (eC (.int 1)))) (eFrz (eCall (f_law_body k) (gO 0 (gD (eFrz (eCall f_law_under (gO 0 (gD (eVar 1) gNilA)))) (gD (eBin subD (eVar 2) (eC (.int 1))) gNilA))))) (eTup aNil))))
    (sSeq (sSet 8 (vDat (eBin subD (eVar 1) (eFrz (eCall (f_law_many 8) (gD (eVar 7) gNilA))))))
    (sSeq (sSet 9 (vDat (eTup aNil)))
    (sSeq (sIf (bOf (eBin gtD (eVar 2) (eC (.int 1)))) (sSet 9 (eCall (f_law_body k) (gO 0 (gD (eFrz (eCall f_law_under (gO 0 (gD (eVar 8) gNilA)))) (gD (eBin subD (eVar 2) (eC (.int 1))) gNilA))))) sNx)
    (sSeq (sSet 10 (vDat (eTup (aCons (eFrz (eCall f_law_some (gO 0 (gD (eLst (aCons (eC (.str "longer")) (aCons (eC (.str "longer")) (aCons (eC (.str "same")) aNil)))) gNilA)))) (aCons (eVar 5) (aCons (eVar 6) aNil))))))
    (sSet 4 (vDat (eTup (aCons (eC (.str "if")) (aCons (eVar 10) (aCons (eVar 7) (aCons (eVar 9) aNil))))))))))))) sNx)
    (sSeq (sSet 3 (vDat (eBin addD (eVar 3) (eTup (aCons (eVar 4) aNil)))))
    (sSet 1 (vDat (eBin subD (eVar 1) (eFrz (eCall (f_law_many 8) (gD (eTup (aCons (eVar 4) aNil)) gNilA)))))))))
      (BS.R n) (fun q s => s.fr ∧ Stm.oks n s.fd ∧ s.fd.length + q = 8 ∧ 0 ≤ s.many ∧ s.many + Stm.szs s.fd = M) (fun s => Stm.oks n s.fd ∧ s.fd.length ≤ 8 ∧ (Stm.szs s.fd : Int) ≤ M) ?_ 1000 8 ⟨a, b, M, [], .un, .un, .un, .un, .un, .un, .un⟩ ⟨⟨Val.free_un, Val.free_un, Val.free_un, Val.free_un, Val.free_un, Val.free_un, Val.free_un⟩, by unfold Stm.oks; trivial, rfl, hM, by simp [Stm.szs]⟩ (by omega)
    · obtain ⟨s, e, p1, p2, p3⟩ := loop
      refine ⟨s.fd, s.a, s.b, p1, p2, p3, (fn_ret (ρ' := s.R n) ?_).trans rfl⟩
      show b_law_body (f_law_body k) [VT a b, .dat (.int M), .dat (.int (n : Nat)), .un, .un, .un, .un, .un, .un, .un, .un] = _
      unfold b_law_body
      exact seq_to rfl (seq_to e (ret_to rfl))
    · intro q s h
      obtain ⟨fr, o, hq, h0, hs⟩ := h
      obtain ⟨a, b, many, fd, x4, x5, x6, x7, x8, x9, x10⟩ := s
      dsimp only at fr o hq h0 hs ⊢
      by_cases hm : many > 0
      · by_cases hl : fd.length < 8
        · right
          refine ⟨and_t (bOf_to (bin_to rfl rfl (gt_t hm))) (bOf_to (bin_to (cb_to rfl rfl) rfl (lt_t (by show ((Stm.ds fd).length : Int) < 8; rw [Stm.ds_len]; omega)))), ?_⟩
          obtain ⟨s0, hs0, a1, b1, e1⟩ := plain_ok a b
          obtain ⟨r, a2, b2, r0, r1, e2⟩ := under_ok a1 b1 4 (by decide) (by decide)
          have v := fr
          obtain ⟨v4, v5, v6, v7, v8, v9, v10⟩ := v
          -- the statement that is laid
          have turn : ∃ (s' : BS) (st : Stm), s'.fr ∧ s'.many = many ∧ s'.fd = fd ∧ s'.x4 = .dat st.d ∧ st.ok n ∧ (st.sz : Int) ≤ many ∧
              (sIf (bOf (eBin eqD (eFrz (eCall f_law_under (gO 0 (gD (eC (.int 4)) gNilA)))) (eC (.int 0)))) (sSeq (sAsg (eFrz (eCall f_law_some (gO 0 (gD (eLst (aCons (eTup (aCons (eC (.str "a")) (aCons (eC (.str "b")) aNil))) (aCons (eTup (aCons (eC (.str "a")) (aCons (eC (.str "b")) aNil))) (aCons (eTup (aCons (eC (.str "b")) (aCons (eC (.str "a")) aNil))) (aCons (eFrz (eCall f_law_two (gO 0 gNilA))) aNil))))) gNilA)))) (gTp 2 (gCons (gNm 5) (gCons (gNm 6) gNil))))
    (sSeq (sSet 7 (vDat (eIf (bOf (eBin gtD (eVar 2) (eC (.int 1)))) (eFrz (eCall (f_law_body k) (gO 0 (gD (eFrz (eCall f_law_under (gO 0 (gD (eVar 1) gNilA)))) (gD (eBin subD (eVar 2) (eC (.int 1))) gNilA))))) (eTup aNil))))
    (sSeq (sSet 8 (vDat (eBin subD (eVar 1) (eFrz (eCall (f_law_many 8) (gD (eVar 7) gNilA))))))
    (sSeq (sSet 9 (vDat (eTup aNil)))
    (sSeq (sIf (bOf (eBin gtD (eVar 2) (eC (.int 1)))) (sSet 9 (eCall (f_law_body k) (gO 0 (gD (eFrz (eCall f_law_under (gO 0 (gD (eVar 8) gNilA)))) (gD (eBin subD (eVar 2) (eC (.int 1))) gNilA))))) sNx)
    (sSeq (sSet 10 (vDat (eTup (aCons (eFrz (eCall f_law_some (gO 0 (gD (eLst (aCons (eC (.str "longer")) (aCons (eC (.str "longer")) (aCons (eC (.str "same")) aNil)))) gNilA)))) (aCons (eVar 5) (aCons (eVar 6) aNil))))))
    (sSet 4 (vDat (eTup (aCons (eC (.str "if")) (aCons (eVar 10) (aCons (eVar 7) (aCons (eVar 9) aNil))))))))))))) sNx) (BS.R n ⟨a1, b1, many, fd, .dat s0, x5, x6, x7, x8, x9, x10⟩) = .ok .nx (s'.R n) := by
            have cu : eFrz (eCall f_law_under (gO 0 (gD (eC (.int 4)) gNilA))) (BS.R n ⟨a1, b1, many, fd, .dat s0, x5, x6, x7, x8, x9, x10⟩) = .ok (.int r) (BS.R n ⟨a2, b2, many, fd, .dat s0, x5, x6, x7, x8, x9, x10⟩) := frz_to (call_to (ρ1 := BS.R n ⟨a1, b1, many, fd, .dat s0, x5, x6, x7, x8, x9, x10⟩) (as := [.o 0, .d (.int 4)]) rfl rfl e2)
            by_cases hr : r = 0
            · obtain ⟨s', st, w1, w2, w3, w4, w5, w6, e3⟩ := inner_ok k n h1 h8 ih ⟨a2, b2, many, fd, .dat s0, x5, x6, x7, x8, x9, x10⟩ ⟨Val.free_dat, v5, v6, v7, v8, v9, v10⟩ hm (by show many ≤ 900; omega)
              exact ⟨s', st, w1, w2, w3, w4, w5, w6, if_t (bOf_to (bin_to cu rfl (eq_t hr))) e3⟩
            · exact ⟨⟨a2, b2, many, fd, .dat s0, x5, x6, x7, x8, x9, x10⟩, .pl s0, ⟨Val.free_dat, v5, v6, v7, v8, v9, v10⟩, rfl, rfl, rfl, by unfold Stm.ok; exact ⟨hs0, h1⟩, by simp only [Stm.sz]; omega, if_f (bOf_to (bin_to cu rfl (eq_f hr))) rfl⟩
          obtain ⟨s', st, w1, w2, w3, w4, w5, w6, e3⟩ := turn
          obtain ⟨a', b', many', fd', y4, y5, y6, y7, y8, y9, y10⟩ := s'
          dsimp only at w1 w2 w3 w4
          subst w2 w3 w4
          obtain ⟨_, u5, u6, u7, u8, u9, u10⟩ := w1
          have sz1 := many1 w5 h8
          refine ⟨⟨a', b', many' - st.sz, fd' ++ [st], .dat st.d, y5, y6, y7, y8, y9, y10⟩, ?_, q - 1, by omega, ⟨Val.free_dat, u5, u6, u7, u8, u9, u10⟩, ?_, ?_, ?_, ?_⟩
          · refine seq_to (ρ1 := BS.R n ⟨a1, b1, many', fd', .dat s0, x5, x6, x7, x8, x9, x10⟩) (set_to (call_to (ρ1 := BS.R n ⟨a, b, many', fd', x4, x5, x6, x7, x8, x9, x10⟩) (as := [.o 0]) rfl rfl e1) (put_free rfl v4)) (seq_to e3 ?_)
            refine seq_to (ρ1 := BS.R n ⟨a', b', many', fd' ++ [st], .dat st.d, y5, y6, y7, y8, y9, y10⟩) (set_to (dat_to (bin_to rfl (tup_to rfl) (addT (by rw [Stm.ds_len]; show fd'.length + 1 ≤ 1000; omega)))) ?_) ?_
            · rw [show Stm.ds fd' ++ [st.d] = Stm.ds (fd' ++ [st]) from (Stm.ds_app fd' [st]).symm]
              rfl
            · exact set_to (dat_to (bin_to rfl (frz_to (call1_to (tup_to rfl) sz1)) rfl)) rfl
          · exact Stm.oks_app.mpr ⟨o, one_ok w5⟩
          · dsimp only; rw [List.length_append]; show fd'.length + 1 + (q - 1) = 8; omega
          · dsimp only; omega
          · dsimp only; rw [Stm.szs_app, szs_one]; omega
        · left
          exact ⟨and_t (bOf_to (bin_to rfl rfl (gt_t hm))) (bOf_to (bin_to (cb_to rfl rfl) rfl (lt_f (by show ¬ ((Stm.ds fd).length : Int) < 8; rw [Stm.ds_len]; omega)))), o, by omega, by omega⟩
      · left
        exact ⟨and_f (bOf_to (bin_to rfl rfl (gt_f hm))), o, by omega, by omega⟩
theorem gen_ok (a b : Int) : ∃ l a' b', Stm.oks 3 l ∧ l.length ≤ 8 ∧ Stm.szs l ≤ 16 ∧ f_law_script [VT a b, .dat (.int 16)] = .ok (.dat (bD l)) [VT a' b', .dat (.int 16)] := by
  obtain ⟨r, a1, b1, h0, h1, e1⟩ := under_ok a b 17 (by decide) (by decide)
  obtain ⟨l, a2, b2, o, n1, z, e2⟩ := body_ok 8 3 (by omega) (by omega) (by omega) r a1 b1 h0 (by omega)
  refine ⟨l, a2, b2, o, n1, by omega, (fn_ret (ρ' := [VT a2 b2, .dat (.int 16)]) ?_).trans rfl⟩
  show b_law_script [VT a b, .dat (.int 16)] = _
  unfold b_law_script
  have cu : eFrz (eCall f_law_under (gO 0 (gD (eBin addD (eVar 1) (eC (.int 1))) gNilA))) [VT a b, .dat (.int 16)] = .ok (.int r) [VT a1 b1, .dat (.int 16)] := frz_to (call_to (ρ1 := [VT a b, .dat (.int 16)]) (as := [.o 0, .d (.int 17)]) rfl rfl e1)
  exact ret_to (call_to (ρ1 := [VT a1 b1, .dat (.int 16)]) (as := [.o 0, .d (.int r), .d (.int 3)]) (gO_to rfl (gD_to cu rfl)) rfl e2)
end Cd.K02

set_option Elab.async false
set_option linter.all false
set_option autoImplicit false
set_option maxRecDepth 100000
set_option maxHeartbeats 1000000
namespace Cd.K02
open PySem PySem.Spec L2 L2H LamX Cd
theorem vat_ok (ns : List Int) (k : Int) (hk : 0 ≤ k) : ∃ x y, f_law_vat [.dat (.scr ns), .dat (.int k)] = .ok (.own false (.lst [.int x, .int y])) [.dat (.scr ns), .dat (.int k)] := by
  have fin : ∀ c : Int, ∃ x y, (sRet (vLst (aCons (eIf (bOf (eBin geD (eVar 2) (eBin powD (eC (.int 10)) (eC (.int 18))))) (eVar 2) (eC (.int 0))) (aCons (eBin addD (eBin modD (eCB intF (aCons (eBin addD (eBin addD (eBin mulD (eVar 2) (eC (.int 131071))) (eBin mulD (eC (.int 8191)) (eVar 1))) (eC (.int 5))) aNil)) (eC (.int 2147483629))) (eC (.int 1))) aNil)))) [.dat (.scr ns), .dat (.int k), .dat (.int c)] = .ok (.ret (.own false (.lst [.int x, .int y]))) [.dat (.scr ns), .dat (.int k), .dat (.int c)] := fun c => by
    have two : (aCons (eBin addD (eBin modD (eCB intF (aCons (eBin addD (eBin addD (eBin mulD (eVar 2) (eC (.int 131071))) (eBin mulD (eC (.int 8191)) (eVar 1))) (eC (.int 5))) aNil)) (eC (.int 2147483629))) (eC (.int 1))) aNil) [.dat (.scr ns), .dat (.int k), .dat (.int c)] = .ok [.int ((c * 131071 + 8191 * k + 5).fmod 2147483629 + 1)] [.dat (.scr ns), .dat (.int k), .dat (.int c)] :=
      aCons_eval (bin_to (bin_to (cb_to (aCons_eval (bin_to (bin_to (bin_to rfl rfl (mul_r (by decide))) (bin_to rfl rfl (mul_l (by decide))) rfl) rfl rfl) rfl) rfl) rfl (mod_to (by decide))) rfl rfl) rfl
    have pw : eBin powD (eC (.int 10)) (eC (.int 18)) [.dat (.scr ns), .dat (.int k), .dat (.int c)] = .ok (.int 1000000000000000000) [.dat (.scr ns), .dat (.int k), .dat (.int c)] := by kernel_rfl
    have one : ∃ x, eIf (bOf (eBin geD (eVar 2) (eBin powD (eC (.int 10)) (eC (.int 18))))) (eVar 2) (eC (.int 0)) [.dat (.scr ns), .dat (.int k), .dat (.int c)] = .ok (.int x) [.dat (.scr ns), .dat (.int k), .dat (.int c)] := by
      by_cases h : c ≥ 1000000000000000000
      · exact ⟨c, eIf_t (bOf_to (bin_to rfl pw (show some (D.bl (decide (c ≥ 1000000000000000000))) = _ from by rw [decide_eq_true h]))) rfl⟩
      · exact ⟨0, eIf_f (bOf_to (bin_to rfl pw (show some (D.bl (decide (c ≥ 1000000000000000000))) = _ from by rw [decide_eq_false h]))) rfl⟩
    obtain ⟨x, ex⟩ := one
    refine ⟨x, (c * 131071 + 8191 * k + 5).fmod 2147483629 + 1, ret_to ?_⟩
    unfold vLst
    exact bind_to (aCons_eval ex two) rfl
  have m0 : sSet 2 (vDat (eBin addD (eBin mulD (eC (.int 7919)) (eVar 1)) (eC (.int 43)))) [.dat (.scr ns), .dat (.int k), .un] = .ok .nx [.dat (.scr ns), .dat (.int k), .dat (.int (7919 * k + 43))] := set_to (dat_to (bin_to (bin_to rfl rfl (mul_l (by decide))) rfl rfl)) rfl
  by_cases h : k < ns.length
  · obtain ⟨v, _, ev⟩ := atI_lt (xs := ns) hk h
    obtain ⟨x, y, e⟩ := fin (if v < 0 then -v else v)
    refine ⟨x, y, (fn_ret (ρ' := [.dat (.scr ns), .dat (.int k), .dat (.int (if v < 0 then -v else v))]) ?_).trans rfl⟩
    show b_law_vat [.dat (.scr ns), .dat (.int k), .un] = _
    unfold b_law_vat
    have ei : ixD (.scr ns) (.int k) = some (.int v) := by show (atI ns k).map D.int = _; rw [ev]; rfl
    exact seq_to m0 (seq_to (if_t (bOf_to (bin_to rfl (cb_to rfl rfl) (lt_t h))) (set_to (dat_to (cb_to (aCons_eval (cb_to (aCons_eval (bin_to rfl rfl ei) rfl) rfl) rfl) rfl)) rfl)) e)
  · obtain ⟨x, y, e⟩ := fin (7919 * k + 43)
    refine ⟨x, y, (fn_ret (ρ' := [.dat (.scr ns), .dat (.int k), .dat (.int (7919 * k + 43))]) ?_).trans rfl⟩
    show b_law_vat [.dat (.scr ns), .dat (.int k), .un] = _
    unfold b_law_vat
    exact seq_to m0 (seq_to (if_f (bOf_to (bin_to rfl (cb_to rfl rfl) (lt_f h))) rfl) e)
theorem rng_map (n : Nat) : rngD 0 n = ((List.range n).map fun (i : Nat) => (i : Int)).map D.int := by
  unfold rngD
  rw [List.map_map]
  refine List.map_congr_left fun i _ => ?_
  show D.int (0 + (i : Int)) = D.int (i : Int)
  rw [Int.zero_add]
theorem rng_to {ms : SM (List D)} {j : Int} {ρ ρ1 : Rho} (h : ms ρ = .ok [.int j] ρ1) (h1 : -(2 ^ 62) ≤ j ∧ j < 2 ^ 62) : itR1 ms ρ = .ok (((List.range j.toNat).map fun (i : Nat) => (i : Int)).map D.int) ρ1 := by
  unfold itR1
  refine bind_to h ?_
  dsimp only
  rw [if_pos h1, rng_map]
  rfl
/-- one turn -/
theorem turn_ok (ns : List Int) (k : Int) (hk : 0 ≤ k) (v2 v3 v4 v5 v6 v7 : Val) (w2 : v2.free) (w3 : v3.free) (w4 : v4.free) (w5 : v5.free) : ∃ u2 u3 u4 u5 : Val, u2.free ∧ u3.free ∧ u4.free ∧ u5.free ∧
    (sSeq (sSet 2 (eCall f_law_vat (gD (eVar 0) (gD (eVar 1) gNilA))))
    (sSeq (sSet 3 (eCall f_law_script (gO 2 (gD (eC (.int 16)) gNilA))))
    (sSeq (sFor (itR1 (aCons (eFrz (eCall (f_law_many 8) (gD (eVar 3) gNilA))) aNil)) (gNm 4) (sIf (bOf (eBin neD (eFrz (eCall f_without (gD (eVar 3) (gD (eVar 4) gNilA)))) (eFrz (eCall (f_law_without 8) (gD (eVar 3) (gD (eVar 4) gNilA)))))) (sRet (vDat (eC (.bl false)))) sNx))
    (sSeq (sFor (itL (eLst (aCons (eUn negD (eC (.int 1))) (aCons (eFrz (eCall (f_law_many 8) (gD (eVar 3) gNilA))) (aCons (eC .non) (aCons (eC (.bl true)) (aCons (eC (.str "0")) aNil))))))) (gNm 5) (sIf (bOf (eBin neD (eErr wd (eFrz (eCall f_without (gD (eVar 3) (gD (eVar 5) gNilA))))) (eC (.str "number value")))) (sRet (vDat (eC (.bl false)))) sNx))
    (sIf (bOf (eBin neD (eErr wd (eFrz (eCall f_without (gD (eCB lstF (aCons (eVar 3) aNil)) (gD (eC .non) gNilA))))) (eC (.str "script value")))) (sRet (vDat (eC (.bl false)))) sNx))))) [.dat (.scr ns), .dat (.int k), v2, v3, v4, v5, v6, v7] = .ok .nx [.dat (.scr ns), .dat (.int k), u2, u3, u4, u5, v6, v7] := by
  obtain ⟨x, y, e1⟩ := vat_ok ns k hk
  obtain ⟨l, a', b', o, hl, hs, e2⟩ := gen_ok x y
  have loop1 := loop_rel (T := gNm 4) (mb := (sIf (bOf (eBin neD (eFrz (eCall f_without (gD (eVar 3) (gD (eVar 4) gNilA)))) (eFrz (eCall (f_law_without 8) (gD (eVar 3) (gD (eVar 4) gNilA)))))) (sRet (vDat (eC (.bl false)))) sNx))
    (fun (_ : Unit) v => [.dat (.scr ns), .dat (.int k), .own false (.lst [.int a', .int b']), .dat (bD l), v, v5, v6, v7]) D.int (fun rest _ => ∀ i ∈ rest, 0 ≤ i ∧ i < Stm.szs l) (fun s v d hv => put_free rfl hv) (fun i r s h => ?_) ((List.range (Stm.szs l : Int).toNat).map fun (i : Nat) => (i : Int)) () v4 w4 (fun i hi => ?_)
  · obtain ⟨_, u4, e3, f4, _⟩ := loop1
    have loop2 := loop_rel (T := gNm 5) (mb := (sIf (bOf (eBin neD (eErr wd (eFrz (eCall f_without (gD (eVar 3) (gD (eVar 5) gNilA))))) (eC (.str "number value")))) (sRet (vDat (eC (.bl false)))) sNx))
      (fun (_ : Unit) v => [.dat (.scr ns), .dat (.int k), .own false (.lst [.int a', .int b']), .dat (bD l), u4, v, v6, v7]) (fun d : D => d) (fun rest _ => ∀ d ∈ rest, NoNum ((Stm.szs l : Int) - 1) d) (fun s v d hv => put_free rfl hv) (fun d r s h => ?_) [.int (-1), .int (Stm.szs l : Nat), .non, .bl true, .str "0"] () v5 w5 (fun d hd => ?_)
    · obtain ⟨_, u5, e4, f5, _⟩ := loop2
      refine ⟨.own false (.lst [.int a', .int b']), .dat (bD l), u4, u5, (fun m z => by cases z), Val.free_dat, f4, f5, ?_⟩
      refine seq_to (set_to (call_to (as := [.d (.scr ns), .d (.int k)]) rfl rfl e1) (put_free rfl w2)) ?_
      refine seq_to (set_to (call_to (ρ1 := [.dat (.scr ns), .dat (.int k), .own false (.lst [.int x, .int y]), v3, v4, v5, v6, v7]) (as := [.o 2, .d (.int 16)]) rfl rfl e2) (put_free rfl w3)) ?_
      refine seq_to (ρ1 := [.dat (.scr ns), .dat (.int k), .own false (.lst [.int a', .int b']), .dat (bD l), u4, v5, v6, v7]) (for_to (rng_to (aCons_eval (frz_to (call1_to rfl (many_ok 8 3 l o (by omega)))) rfl) (by omega)) e3) ?_
      refine seq_to (ρ1 := [.dat (.scr ns), .dat (.int k), .own false (.lst [.int a', .int b']), .dat (bD l), u4, u5, v6, v7]) (for_to (bind_to (lst_to (aCons_eval rfl (aCons_eval (frz_to (call1_to rfl (many_ok 8 3 l o (by omega)))) (aCons_eval rfl (aCons_eval rfl (aCons_eval rfl rfl)))))) rfl) (by rw [List.map_id'] at e4; exact e4)) ?_
      exact if_f (bOf_to (bin_to (err_exc (x := "InvalidScript") (y := "script value") (frz_exc (call_exc (as := [.d (.lst (Stm.ds l)), .d .non]) (gD_to (cb_to (ds := [bD l]) rfl rfl) rfl) rfl (wo_l (Stm.ds l)))) (by kernel_rfl)) rfl (by kernel_rfl))) rfl
    · refine ⟨(), ?_, fun d' h' => h d' (List.mem_cons_of_mem _ h')⟩
      exact if_f (bOf_to (bin_to (err_exc (x := "InvalidNumber") (y := "number value") (frz_exc (call_exc (as := [.d (bD l), .d d]) rfl rfl (wo_f o hl hs (h d List.mem_cons_self)))) (by kernel_rfl)) rfl (by kernel_rfl))) rfl
    · simp only [List.mem_cons, List.not_mem_nil, or_false] at hd
      rcases hd with rfl | rfl | rfl | rfl | rfl
      · exact .inl ⟨-1, rfl, by omega⟩
      · exact .inl ⟨_, rfl, by omega⟩
      · exact .inr (.inl rfl)
      · exact .inr (.inr (.inl rfl))
      · exact .inr (.inr (.inr ⟨_, rfl⟩))
  · have c := h i List.mem_cons_self
    refine ⟨(), ?_, fun d' h' => h d' (List.mem_cons_of_mem _ h')⟩
    have q := lw_ok 8 3 l i o hl (by omega) (by omega)
    rw [Stm.lws_eq] at q
    have pk := Stm.pls_ok (Stm.cuts_ok l i o)
    exact if_f (bOf_to (bin_to (frz_to (call_to (as := [.d (bD l), .d (.int i)]) rfl rfl (wo_t o hl hs c))) (frz_to (call_to (as := [.d (bD l), .d (.int i)]) rfl rfl q)) (neD_self (by unfold D.pl; exact pk.1) (by unfold D.py; simp only [PyData.depth]; omega)))) rfl
  · obtain ⟨m, hm, rfl⟩ := List.mem_map.mp hi
    rw [List.mem_range] at hm
    omega
theorem plain (ns : List Int) (hn : ns.length ≤ 63) (_ : ∀ z ∈ ns, Builtin.Int.intBits z ≤ 1048576) : ∃ ρ', f_law [.dat (.scr ns)] = .ok (.dat (.bl true)) ρ' := by
  have loop := loop_rel (T := gNm 1) (mb := (sSeq (sSet 2 (eCall f_law_vat (gD (eVar 0) (gD (eVar 1) gNilA))))
    (sSeq (sSet 3 (eCall f_law_script (gO 2 (gD (eC (.int 16)) gNilA))))
    (sSeq (sFor (itR1 (aCons (eFrz (eCall (f_law_many 8) (gD (eVar 3) gNilA))) aNil)) (gNm 4) (sIf (bOf (eBin neD (eFrz (eCall f_without (gD (eVar 3) (gD (eVar 4) gNilA)))) (eFrz (eCall (f_law_without 8) (gD (eVar 3) (gD (eVar 4) gNilA)))))) (sRet (vDat (eC (.bl false)))) sNx))
    (sSeq (sFor (itL (eLst (aCons (eUn negD (eC (.int 1))) (aCons (eFrz (eCall (f_law_many 8) (gD (eVar 3) gNilA))) (aCons (eC .non) (aCons (eC (.bl true)) (aCons (eC (.str "0")) aNil))))))) (gNm 5) (sIf (bOf (eBin neD (eErr wd (eFrz (eCall f_without (gD (eVar 3) (gD (eVar 5) gNilA))))) (eC (.str "number value")))) (sRet (vDat (eC (.bl false)))) sNx))
    (sIf (bOf (eBin neD (eErr wd (eFrz (eCall f_without (gD (eCB lstF (aCons (eVar 3) aNil)) (gD (eC .non) gNilA))))) (eC (.str "script value")))) (sRet (vDat (eC (.bl false)))) sNx)))))) (fun (s : Val × Val × Val × Val) v => [.dat (.scr ns), v, s.1, s.2.1, s.2.2.1, s.2.2.2, .un, .un]) D.int (fun rest s => (∀ i ∈ rest, 0 ≤ i) ∧ s.1.free ∧ s.2.1.free ∧ s.2.2.1.free ∧ s.2.2.2.free) (fun s v d hv => put_free rfl hv) (fun i r s h => ?_)
    ((List.range (max 5 (min 12 ns.length))).map fun (i : Nat) => (i : Int)) (.un, .un, .un, .un) .un Val.free_un ⟨fun i hi => ?_, Val.free_un, Val.free_un, Val.free_un, Val.free_un⟩
  · obtain ⟨⟨v2, v3, v4, v5⟩, v1, e, f1, _, f2, f3, f4, f5⟩ := loop
    dsimp only at e f2 f3 f4 f5
    refine ⟨_, fn_ret (ρ' := [.dat (.scr ns), v1, v2, .dat (.tup [.tup [.str "if", .tup [.str "same", .str "b", .str "c"], .tup [.tup [.str "fold", .str "c", .int 3], .tup [.str "tie", .str "a", .str "c"]], .tup [.tup [.str "tie", .str "a", .str "c"]]], .tup [.str "fold", .str "c", .int 3]]), v4, v5, .dat (.tup [.str "fold", .str "c", .int 3]), .dat (.tup [.str "tie", .str "a", .str "c"])]) ?_⟩
    show b_law [.dat (.scr ns), .un, .un, .un, .un, .un, .un, .un] = _
    unfold b_law
    have rng : itR1 (aCons (eCB maxF (aCons (eC (.int 5)) (aCons (eCB minF (aCons (eC (.int 12)) (aCons (eCB lenF (aCons (eVar 0) aNil)) aNil))) aNil))) aNil) [.dat (.scr ns), .un, .un, .un, .un, .un, .un, .un] = .ok (((List.range (max 5 (min 12 ns.length))).map fun (i : Nat) => (i : Int)).map D.int) [.dat (.scr ns), .un, .un, .un, .un, .un, .un, .un] := by
      have ev : aCons (eCB maxF (aCons (eC (.int 5)) (aCons (eCB minF (aCons (eC (.int 12)) (aCons (eCB lenF (aCons (eVar 0) aNil)) aNil))) aNil))) aNil [.dat (.scr ns), .un, .un, .un, .un, .un, .un, .un] = .ok [.int ((max 5 (min 12 ns.length) : Nat) : Int)] [.dat (.scr ns), .un, .un, .un, .un, .un, .un, .un] := by
        refine aCons_eval (cb_to (ds := [.int 5, .int (if (ns.length : Int) < 12 then ns.length else 12)]) rfl ?_) rfl
        show some (D.int (if (if (ns.length : Int) < 12 then (ns.length : Int) else 12) > 5 then (if (ns.length : Int) < 12 then (ns.length : Int) else 12) else 5)) = _
        congr 2
        omega
      have q := rng_to ev (by omega)
      rw [Int.toNat_natCast] at q
      exact q
    refine seq_to (ρ1 := [.dat (.scr ns), v1, v2, v3, v4, v5, .un, .un]) (for_to rng e) ?_
    refine seq_to (ρ1 := [.dat (.scr ns), v1, v2, v3, v4, v5, .dat (.tup [.str "fold", .str "c", .int 3]), .dat (.tup [.str "tie", .str "a", .str "c"])]) rfl ?_
    refine seq_to (set_to rfl (put_free rfl f3)) ?_
    refine seq_to (if_f (ρ1 := [.dat (.scr ns), v1, v2, .dat (.tup [.tup [.str "if", .tup [.str "same", .str "b", .str "c"], .tup [.tup [.str "fold", .str "c", .int 3], .tup [.str "tie", .str "a", .str "c"]], .tup [.tup [.str "tie", .str "a", .str "c"]]], .tup [.str "fold", .str "c", .int 3]]), v4, v5, .dat (.tup [.str "fold", .str "c", .int 3]), .dat (.tup [.str "tie", .str "a", .str "c"])]) ?_ rfl) (ret_to ?_)
    · kernel_rfl
    · kernel_rfl
  · obtain ⟨h0, f2, f3, f4, f5⟩ := h
    obtain ⟨s2, s3, s4, s5⟩ := s
    obtain ⟨u2, u3, u4, u5, g2, g3, g4, g5, e⟩ := turn_ok ns i (h0 i List.mem_cons_self) s2 s3 s4 s5 .un .un f2 f3 f4 f5
    exact ⟨(u2, u3, u4, u5), e, fun j hj => h0 j (List.mem_cons_of_mem _ hj), g2, g3, g4, g5⟩
  · obtain ⟨m, hm, rfl⟩ := List.mem_map.mp hi
    omega
end Cd.K02

set_option Elab.async false
set_option linter.all false
set_option autoImplicit false
set_option maxRecDepth 100000
set_option maxHeartbeats 0
namespace Cd.K02
open PySem PySem.Spec PyProof.Rows L2 L2H LamX Cd
def fnL : List He.DefD := [⟨("is_whole", none), "is_whole", "is_whole", defArgs st_is_whole, defBody st_is_whole, defScope st_is_whole, [], []⟩,
  ⟨("is_word", none), "is_word", "is_word", defArgs st_is_word, defBody st_is_word, defScope st_is_word, [], []⟩,
  ⟨("are_places", none), "are_places", "are_places", defArgs st_are_places, defBody st_are_places, defScope st_are_places, [], []⟩,
  ⟨("is_test", none), "is_test", "is_test", defArgs st_is_test, defBody st_is_test, defScope st_is_test, [], []⟩,
  ⟨("is_plain", none), "is_plain", "is_plain", defArgs st_is_plain, defBody st_is_plain, defScope st_is_plain, [], []⟩,
  ⟨("is_statement", none), "is_statement", "is_statement", defArgs st_is_statement, defBody st_is_statement, defScope st_is_statement, [], []⟩,
  ⟨("is_body", none), "is_body", "is_body", defArgs st_is_body, defBody st_is_body, defScope st_is_body, [], []⟩,
  ⟨("size", none), "size", "size", defArgs st_size, defBody st_size, defScope st_size, [], []⟩,
  ⟨("is_script", none), "is_script", "is_script", defArgs st_is_script, defBody st_is_script, defScope st_is_script, [], []⟩,
  ⟨("need_script", none), "need_script", "need_script", defArgs st_need_script, defBody st_need_script, defScope st_need_script, [], []⟩,
  ⟨("need_number", none), "need_number", "need_number", defArgs st_need_number, defBody st_need_number, defScope st_need_number, [], []⟩,
  ⟨("cut_out", none), "cut_out", "cut_out", defArgs st_cut_out, defBody st_cut_out, defScope st_cut_out, [], []⟩,
  ⟨("without", none), "without", "without", defArgs st_without, defBody st_without, defScope st_without, [], []⟩,
  ⟨("_law_vat", none), "_law_vat", "_law_vat", defArgs st_law_vat, defBody st_law_vat, defScope st_law_vat, [], []⟩,
  ⟨("_law_under", none), "_law_under", "_law_under", defArgs st_law_under, defBody st_law_under, defScope st_law_under, [], []⟩,
  ⟨("_law_some", none), "_law_some", "_law_some", defArgs st_law_some, defBody st_law_some, defScope st_law_some, [], []⟩,
  ⟨("_law_many", none), "_law_many", "_law_many", defArgs st_law_many, defBody st_law_many, defScope st_law_many, [], []⟩,
  ⟨("_law_two", none), "_law_two", "_law_two", defArgs st_law_two, defBody st_law_two, defScope st_law_two, [], []⟩,
  ⟨("_law_plain", none), "_law_plain", "_law_plain", defArgs st_law_plain, defBody st_law_plain, defScope st_law_plain, [], []⟩,
  ⟨("_law_body", none), "_law_body", "_law_body", defArgs st_law_body, defBody st_law_body, defScope st_law_body, [], []⟩,
  ⟨("_law_script", none), "_law_script", "_law_script", defArgs st_law_script, defBody st_law_script, defScope st_law_script, [], []⟩,
  ⟨("_law_names", none), "_law_names", "_law_names", defArgs st_law_names, defBody st_law_names, defScope st_law_names, [], []⟩,
  ⟨("_law_error", none), "_law_error", "_law_error", defArgs st_law_error, defBody st_law_error, defScope st_law_error, [], []⟩,
  ⟨("_law_without", none), "_law_without", "_law_without", defArgs st_law_without, defBody st_law_without, defScope st_law_without, [], []⟩,
  ⟨("law", none), "law", "law", defArgs st_law, defBody st_law, defScope st_law, [], []⟩]
def tfN : List Str := ["law"]
def faL : List He.Fa := [.glo "is_whole", .glo "is_word", .glo "are_places", .glo "is_test", .glo "is_plain", .glo "is_statement", .glo "is_body", .glo "size", .glo "is_script", .glo "need_script", .glo "need_number", .glo "cut_out", .glo "without", .glo "_law_vat", .glo "_law_under", .glo "_law_some", .glo "_law_many", .glo "_law_two", .glo "_law_plain", .glo "_law_body", .glo "_law_script", .glo "_law_names", .glo "_law_error", .glo "_law_without", .glo "law", .free "ValueError", .free "abs", .free "bool", .free "int", .free "isinstance", .free "len", .free "list", .free "max", .free "min", .free "range", .free "str", .free "tuple", .free "zip", .glo "CordError", .glo "InvalidAnswers", .glo "InvalidLengths", .glo "InvalidNumber", .glo "InvalidPlace", .glo "InvalidScript", .glo "InvalidShare", .glo "InvalidStretch", .glo "InvalidText", .glo "NothingToUndo", .int "DEEPEST" 3, .int "MOST_STATEMENTS" 16, .glo "PLACES"]
def exL (K : PySem.W.Frag) : List Bool := [excROk K "InvalidNumber",
  excROk K "InvalidScript",
  He.tupB K "PLACES" [.str "a", .str "b", .str "c"],
  errOk K,
  kitOk K,
  tabOk K tfN]
def exB (K : PySem.W.Frag) : Bool := (exL K).all id
def tfL : List He.Defn := tfN.map fun x => (x, none)
abbrev R : PySem.W.OpenRow := PySem.W.OpenLaw.row PySem.Challenge.rw_cordshares_k02_statements_left_out
abbrev hk : PySem.W.Hook := He.hookX 4 faL fnL [] tfL exB
def ob (s : PySem.W.SharedT) : He.AlX := He.obsX 4 faL fnL [] tfL exB (HandSHeadRun.getT s)
theorem ob_eq (s : PySem.W.SharedT) : ob s = hk.obs s.abs := He.obsX_eq (HandSHeadRun.getT_eq s)
def loose : List Str := (["CordError", "InvalidScript", "InvalidLengths", "InvalidPlace", "InvalidShare", "InvalidStretch", "InvalidNumber", "InvalidAnswers", "NothingToUndo", "InvalidText", "PLACES", "DEEPEST", "MOST_STATEMENTS", "is_whole", "is_word", "are_places"] : List Str) ++ (["is_test", "is_plain", "is_statement", "is_body", "size", "is_script", "need_script", "need_number", "cut_out", "without", "_law_vat", "_law_under", "_law_some", "_law_many", "_law_two", "_law_plain"] : List Str) ++ (["_law_body", "_law_script", "_law_names", "_law_error", "_law_without"] : List Str)
theorem run (w : World) : HandSHeadRun.RunEq R (PySem.W.view R.prog [40]) hk ob 4000 loose w := by
  intro os
  kernel_rfl
theorem mkT {w : World} {K : PySem.W.Frag} {h : Heap} {mg : Str → Option Value} (X : K.In h) (G : h.Ns mainGlobals mg) (c : He.SaysX faL fnL [] tfL exB w h K) : Nonempty (T K mg) := by
  have e : ∀ b ∈ exL K, b = true := List.all_eq_true.mp c.more
  obtain ⟨fd0, F0⟩ := c.t.d.def_ 0 rfl
  obtain ⟨fd1, F1⟩ := c.t.d.def_ 1 rfl
  obtain ⟨fd2, F2⟩ := c.t.d.def_ 2 rfl
  obtain ⟨fd3, F3⟩ := c.t.d.def_ 3 rfl
  obtain ⟨fd4, F4⟩ := c.t.d.def_ 4 rfl
  obtain ⟨fd5, F5⟩ := c.t.d.def_ 5 rfl
  obtain ⟨fd6, F6⟩ := c.t.d.def_ 6 rfl
  obtain ⟨fd7, F7⟩ := c.t.d.def_ 7 rfl
  obtain ⟨fd8, F8⟩ := c.t.d.def_ 8 rfl
  obtain ⟨fd9, F9⟩ := c.t.d.def_ 9 rfl
  obtain ⟨fd10, F10⟩ := c.t.d.def_ 10 rfl
  obtain ⟨fd11, F11⟩ := c.t.d.def_ 11 rfl
  obtain ⟨fd12, F12⟩ := c.t.d.def_ 12 rfl
  obtain ⟨fd13, F13⟩ := c.t.d.def_ 13 rfl
  obtain ⟨fd14, F14⟩ := c.t.d.def_ 14 rfl
  obtain ⟨fd15, F15⟩ := c.t.d.def_ 15 rfl
  obtain ⟨fd16, F16⟩ := c.t.d.def_ 16 rfl
  obtain ⟨fd17, F17⟩ := c.t.d.def_ 17 rfl
  obtain ⟨fd18, F18⟩ := c.t.d.def_ 18 rfl
  obtain ⟨fd19, F19⟩ := c.t.d.def_ 19 rfl
  obtain ⟨fd20, F20⟩ := c.t.d.def_ 20 rfl
  obtain ⟨fd21, F21⟩ := c.t.d.def_ 21 rfl
  obtain ⟨fd22, F22⟩ := c.t.d.def_ 22 rfl
  obtain ⟨fd23, F23⟩ := c.t.d.def_ 23 rfl
  obtain ⟨fd24, F24⟩ := c.t.d.def_ 24 rfl
  exact ⟨{
    fd_is_whole := fd0,
    F_is_whole := F0,
    g_is_whole := He.glo_ok X G (c.t.d.fact 0 rfl),
    fd_is_word := fd1,
    F_is_word := F1,
    g_is_word := He.glo_ok X G (c.t.d.fact 1 rfl),
    fd_are_places := fd2,
    F_are_places := F2,
    g_are_places := He.glo_ok X G (c.t.d.fact 2 rfl),
    fd_is_test := fd3,
    F_is_test := F3,
    g_is_test := He.glo_ok X G (c.t.d.fact 3 rfl),
    fd_is_plain := fd4,
    F_is_plain := F4,
    g_is_plain := He.glo_ok X G (c.t.d.fact 4 rfl),
    fd_is_statement := fd5,
    F_is_statement := F5,
    g_is_statement := He.glo_ok X G (c.t.d.fact 5 rfl),
    fd_is_body := fd6,
    F_is_body := F6,
    g_is_body := He.glo_ok X G (c.t.d.fact 6 rfl),
    fd_size := fd7,
    F_size := F7,
    g_size := He.glo_ok X G (c.t.d.fact 7 rfl),
    fd_is_script := fd8,
    F_is_script := F8,
    g_is_script := He.glo_ok X G (c.t.d.fact 8 rfl),
    fd_need_script := fd9,
    F_need_script := F9,
    g_need_script := He.glo_ok X G (c.t.d.fact 9 rfl),
    fd_need_number := fd10,
    F_need_number := F10,
    g_need_number := He.glo_ok X G (c.t.d.fact 10 rfl),
    fd_cut_out := fd11,
    F_cut_out := F11,
    g_cut_out := He.glo_ok X G (c.t.d.fact 11 rfl),
    fd_without := fd12,
    F_without := F12,
    g_without := He.glo_ok X G (c.t.d.fact 12 rfl),
    fd_law_vat := fd13,
    F_law_vat := F13,
    g_law_vat := He.glo_ok X G (c.t.d.fact 13 rfl),
    fd_law_under := fd14,
    F_law_under := F14,
    g_law_under := He.glo_ok X G (c.t.d.fact 14 rfl),
    fd_law_some := fd15,
    F_law_some := F15,
    g_law_some := He.glo_ok X G (c.t.d.fact 15 rfl),
    fd_law_many := fd16,
    F_law_many := F16,
    g_law_many := He.glo_ok X G (c.t.d.fact 16 rfl),
    fd_law_two := fd17,
    F_law_two := F17,
    g_law_two := He.glo_ok X G (c.t.d.fact 17 rfl),
    fd_law_plain := fd18,
    F_law_plain := F18,
    g_law_plain := He.glo_ok X G (c.t.d.fact 18 rfl),
    fd_law_body := fd19,
    F_law_body := F19,
    g_law_body := He.glo_ok X G (c.t.d.fact 19 rfl),
    fd_law_script := fd20,
    F_law_script := F20,
    g_law_script := He.glo_ok X G (c.t.d.fact 20 rfl),
    fd_law_names := fd21,
    F_law_names := F21,
    g_law_names := He.glo_ok X G (c.t.d.fact 21 rfl),
    fd_law_error := fd22,
    F_law_error := F22,
    g_law_error := He.glo_ok X G (c.t.d.fact 22 rfl),
    fd_law_without := fd23,
    F_law_without := F23,
    g_law_without := He.glo_ok X G (c.t.d.fact 23 rfl),
    fd_law := fd24,
    F_law := F24,
    g_law := He.glo_ok X G (c.t.d.fact 24 rfl),
    n_ValueError := He.free_ok X G (c.t.d.fact 25 rfl),
    n_abs := He.free_ok X G (c.t.d.fact 26 rfl),
    n_bool := He.free_ok X G (c.t.d.fact 27 rfl),
    n_int := He.free_ok X G (c.t.d.fact 28 rfl),
    n_isinstance := He.free_ok X G (c.t.d.fact 29 rfl),
    n_len := He.free_ok X G (c.t.d.fact 30 rfl),
    n_list := He.free_ok X G (c.t.d.fact 31 rfl),
    n_max := He.free_ok X G (c.t.d.fact 32 rfl),
    n_min := He.free_ok X G (c.t.d.fact 33 rfl),
    n_range := He.free_ok X G (c.t.d.fact 34 rfl),
    n_str := He.free_ok X G (c.t.d.fact 35 rfl),
    n_tuple := He.free_ok X G (c.t.d.fact 36 rfl),
    n_zip := He.free_ok X G (c.t.d.fact 37 rfl),
    g_CordError := He.glo_ok X G (c.t.d.fact 38 rfl),
    g_InvalidAnswers := He.glo_ok X G (c.t.d.fact 39 rfl),
    g_InvalidLengths := He.glo_ok X G (c.t.d.fact 40 rfl),
    g_InvalidNumber := He.glo_ok X G (c.t.d.fact 41 rfl),
    g_InvalidPlace := He.glo_ok X G (c.t.d.fact 42 rfl),
    g_InvalidScript := He.glo_ok X G (c.t.d.fact 43 rfl),
    g_InvalidShare := He.glo_ok X G (c.t.d.fact 44 rfl),
    g_InvalidStretch := He.glo_ok X G (c.t.d.fact 45 rfl),
    g_InvalidText := He.glo_ok X G (c.t.d.fact 46 rfl),
    g_NothingToUndo := He.glo_ok X G (c.t.d.fact 47 rfl),
    x_InvalidNumber := excROk_ok (e _ (.head _)),
    x_InvalidScript := excROk_ok (e _ (.tail _ (.head _))),
    c_DEEPEST := constI X G (c.t.d.fact 48 rfl),
    c_MOST_STATEMENTS := constI X G (c.t.d.fact 49 rfl),
    c_PLACES := constT X G (c.t.d.fact 50 rfl) (e _ (.tail _ (.tail _ (.head _)))) (fun F => RpL.cons (by unfold Rp; rfl) (RpL.cons (by unfold Rp; rfl) (RpL.cons (by unfold Rp; rfl) (RpL.nil)))),
    exm := fun x y C h g => (errOk_at X G (e _ (.tail _ (.tail _ (.tail _ (.head _))))) h g).2,
    exc := fun x y C h g => (errOk_at X G (e _ (.tail _ (.tail _ (.tail _ (.head _))))) h g).1,
    kit := e _ (.tail _ (.tail _ (.tail _ (.tail _ (.head _))))),
    tabu := tabOk_u (e _ (.tail _ (.tail _ (.tail _ (.tail _ (.tail _ (.head _))))))),
    tab_law := tabOk_in (ds := tfN) (e _ (.tail _ (.tail _ (.tail _ (.tail _ (.tail _ (.head _))))))) (by decide) }⟩
theorem holds (plain : ∀ ns : List Int, ns.length ≤ 63 → (∀ z ∈ ns, Builtin.Int.intBits z ≤ 1048576) → ∃ ρ', f_law [.dat (.scr ns)] = .ok (.dat (.bl true)) ρ') : PySem.Challenge.rw_cordshares_k02_statements_left_out.Holds := by
  open PySem PySem.W PySem.Calls PyProof.Rows in
  w_on; o_law
  refine HandSHeadRun.head_any (r := R) (q := PySem.W.view R.prog [40]) (H := hk) (ob := ob) (M := 4000) (loose := loose) (d := HandSHeadRun.topDef R.prog 40) (kwd := []) ob_eq
    (by kernel_rfl) (fun s => by kernel_rfl) run (by kernel_rfl) (by kernel_rfl) (by kernel_rfl) (by rfl) (by first | assumption | decide +kernel) (by decide +kernel) ⟨rfl, rfl, rfl, rfl, rfl, by decide +kernel⟩ ?hw ?hc
  case hw => w_witness2
  case hc =>
    refine LamX.walk_ofTsE (l := PySem.Challenge.rw_cordshares_k02_statements_left_out) (n := 63) (k := 21) (x := "script") (CX := fun w => L2N.CX (PySem.Challenge.rw_cordshares_k02_statements_left_out).prog w) rfl (by decide) (by kernel_rfl) ⟨rfl, by decide, by decide⟩ ?F ?E
    case E =>
      intro w H s e s' z
      obtain ⟨_, _, _, _, _, _, _, _, _, _, _, _, z⟩ := z
      exact z
    case F =>
      intro w mg fa h Y G hmg0
      obtain ⟨K, KX, c⟩ := Y
      have hmg : mg ("law" : PySem.Str) = some (.ref fa) := by
        have e : (HandSHeadRun.topDef R.prog 40).name = ("law" : PySem.Str) := by kernel_rfl
        rw [← e]
        exact hmg0
      obtain ⟨T⟩ := mkT KX G c
      have ef := hmg.symm.trans T.g_law
      cases ef
      have tok : tabOk K tfN = true := List.all_eq_true.mp c.more _ (.tail _ (.tail _ (.tail _ (.tail _ (.tail _ (.head _))))))
      refine ⟨K, KX, T.fd_law, tfL.map (He.cT K), spOf K mg f_law, fun p hp => ?_, fun p hp => ?_, fun p hp => ?_, fun s u => FunD.bindsA (ps := ["script"]) T.F_law (fun _ _ _ _ _ _ us hl => match us, hl with | [_], _ => rfl) s [u] rfl, fun H a ns hl hz hH hS => law_start (fun p hp => ?_) hS (plain ns hl hz), fun base B1 B2 TB => ok_law T (TB _ (List.mem_map.mpr ⟨("law", none), by decide, rfl⟩))⟩
      · obtain ⟨d, hd, rfl⟩ := List.mem_map.mp hp
        exact c.empty d hd
      · obtain ⟨d, hd, rfl⟩ := List.mem_map.mp hp
        exact c.out d hd
      · obtain ⟨d, hd, rfl⟩ := List.mem_map.mp hp
        exact PySem.W.codeHd_of_K KX (c.hd d hd)
      · obtain ⟨d, hd, e⟩ := tabOk_all tok p hp
        rw [e]
        exact hH (He.cT K (d, none)) (List.mem_map.mpr ⟨(d, none), List.mem_map.mpr ⟨d, hd, rfl⟩, rfl⟩)

end Cd.K02

theorem PySem.Challenge.cw_cordshares_k02_statements_left_out_holds : PySem.Challenge.rw_cordshares_k02_statements_left_out.Holds :=
  Cd.K02.holds Cd.K02.plain
