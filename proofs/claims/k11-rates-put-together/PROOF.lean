import PyProof.Rows.All
import Wide.All
import OpenK.AllK
import Wide.FinOn
import HandS.ForMost
import HandS.IsInst
import HandS.Style
import HandS.Wide
import HandS.TupAny
import HandS.Defaults
import HandS.FStr
import HandS.Zip
import HandS.More
import HandS.Text
import HandS.Codes
import KE.KStateDown
import HandS.Head0
import HandS.Head1
import HandS.Head2
import HandS.HeadEnd
import HandS.HeadHook1
import HandS.HeadHook2
import HandS.TupMul
import KE.SortData
import KE.DataMinMax
import KE.DataCmp
import HandS.Iter
import HandS.Walk
import KE.GoesMore
import KE.GoesEnum
import HandS.Set
import HandS.SetKeys
import HandS.SetFor
import HandS.SetBool
import HandS.Dict
import HandS.Exc
import HandS.Lambda
import HandS.HeadWalk
import KE.KDictCopyH
import PyProof.Transfer
import KE.KRevSl
import KE.SortKeyHeap
import HandS.ExcOwn
import HandS.ExcIs
import HandS.WordsExc
import HandS.Deep
import PyProof.SeqIndex
import KE.DataMinKey
import PySem.Challenge.RW_sealduty_k11_whole_rates_put_together
set_option Elab.async false
set_option linter.all false
set_option maxRecDepth 100000
set_option maxHeartbeats 4000000
namespace DL
open PySem L2

/-! ### data -/
inductive Dt where
  | non | bl (b : Bool) | int (i : Int) | str (s : Str) | tup (xs : List Dt) | lst (xs : List Dt) | ref (a : Addr)

mutual
def Din (K : PySem.W.Frag) (F : Hp) : Dt → V → Prop
  | .non, v => v = .non
  | .bl b, v => v = .bl b
  | .int i, v => v = .int i
  | .str s, v => v = .str s ∧ PyData.strOk s = true
  | .ref a, v => v = .ref a
  | .tup xs, v => ∃ a vs, v = .ref a ∧ SqT K F a vs ∧ DinL K F xs vs
  | .lst xs, v => ∃ a vs, v = .ref a ∧ F a = some (.lst vs) ∧ DinL K F xs vs
def DinL (K : PySem.W.Frag) (F : Hp) : List Dt → List V → Prop
  | [], vs => vs = []
  | x :: xs, vs => ∃ v vt, vs = v :: vt ∧ Din K F x v ∧ DinL K F xs vt
end

theorem SqT.mono {K : PySem.W.Frag} {F F' : Hp} {a : Addr} {xs : List V} (e : Same F F') (h : SqT K F a xs) : SqT K F' a xs := by
  rcases h with (h | ⟨o, h⟩) | h
  · exact .inl (.inl (e _ _ h))
  · exact .inl (.inr ⟨o, e _ _ h⟩)
  · exact .inr h
mutual
theorem Din.mono {K : PySem.W.Frag} {F F' : Hp} (e : Same F F') : ∀ (x : Dt) (v : V), Din K F x v → Din K F' x v
  | .non, _, h => h
  | .bl _, _, h => h
  | .int _, _, h => h
  | .str _, _, h => h
  | .ref _, _, h => h
  | .tup xs, v, ⟨a, vs, h1, h2, h3⟩ => ⟨a, vs, h1, SqT.mono e h2, DinL.mono e xs vs h3⟩
  | .lst xs, v, ⟨a, vs, h1, h2, h3⟩ => ⟨a, vs, h1, e _ _ h2, DinL.mono e xs vs h3⟩
theorem DinL.mono {K : PySem.W.Frag} {F F' : Hp} (e : Same F F') : ∀ (xs : List Dt) (vs : List V), DinL K F xs vs → DinL K F' xs vs
  | [], _, h => h
  | x :: xs, vs, ⟨v, vt, h1, h2, h3⟩ => ⟨v, vt, h1, Din.mono e x v h2, DinL.mono e xs vt h3⟩
end
theorem DinL.length {K : PySem.W.Frag} {F : Hp} : ∀ {xs : List Dt} {vs : List V}, DinL K F xs vs → vs.length = xs.length
  | [], _, h => by cases (show _ = [] from h); rfl
  | x :: xs, _, ⟨v, vt, h1, _, h3⟩ => by subst h1; rw [List.length_cons, List.length_cons, DinL.length h3]
theorem DinL.get {K : PySem.W.Frag} {F : Hp} : ∀ {xs : List Dt} {vs : List V} {i : Nat} {x : Dt}, DinL K F xs vs → xs[i]? = some x → ∃ v, vs[i]? = some v ∧ Din K F x v
  | [], _, _, _, _, e => by simp at e
  | x :: xs, _, 0, y, ⟨v, vt, h1, h2, _⟩, e => by
    subst h1
    simp at e; subst e
    exact ⟨v, rfl, h2⟩
  | x :: xs, _, i + 1, y, ⟨v, vt, h1, _, h3⟩, e => by
    subst h1
    obtain ⟨u, e1, e2⟩ := DinL.get (i := i) (x := y) h3 (by simpa using e)
    exact ⟨u, by simpa using e1, e2⟩
theorem DinL.append {K : PySem.W.Frag} {F : Hp} : ∀ {xs ys : List Dt} {vs ws : List V}, DinL K F xs vs → DinL K F ys ws → DinL K F (xs ++ ys) (vs ++ ws)
  | [], ys, vs, ws, h, g => by cases (show _ = [] from h); exact g
  | x :: xs, ys, _, ws, ⟨v, vt, h1, h2, h3⟩, g => by subst h1; exact ⟨v, vt ++ ws, rfl, h2, DinL.append h3 g⟩
theorem DinL.drop {K : PySem.W.Frag} {F : Hp} : ∀ {xs : List Dt} {vs : List V} (n : Nat), DinL K F xs vs → DinL K F (xs.drop n) (vs.drop n)
  | _, _, 0, h => h
  | [], _, n + 1, h => by cases (show _ = [] from h); exact rfl
  | x :: xs, _, n + 1, ⟨v, vt, h1, _, h3⟩ => by subst h1; exact DinL.drop n h3
theorem DinL.take {K : PySem.W.Frag} {F : Hp} : ∀ {xs : List Dt} {vs : List V} (n : Nat), DinL K F xs vs → DinL K F (xs.take n) (vs.take n)
  | _, _, 0, h => rfl
  | [], _, n + 1, h => by cases (show _ = [] from h); exact rfl
  | x :: xs, _, n + 1, ⟨v, vt, h1, h2, h3⟩ => by subst h1; exact ⟨v, vt.take n, rfl, h2, DinL.take n h3⟩
theorem DinL.rev {K : PySem.W.Frag} {F : Hp} : ∀ {xs : List Dt} {vs : List V}, DinL K F xs vs → DinL K F xs.reverse vs.reverse
  | [], _, h => by cases (show _ = [] from h); exact rfl
  | x :: xs, _, ⟨v, vt, h1, h2, h3⟩ => by
    subst h1
    rw [List.reverse_cons, List.reverse_cons]
    exact DinL.append (DinL.rev h3) ⟨v, [], rfl, h2, rfl⟩
theorem DinL.set {K : PySem.W.Frag} {F : Hp} {y : Dt} {u : V} (r : Din K F y u) : ∀ {xs : List Dt} {vs : List V} (i : Nat), DinL K F xs vs → DinL K F (xs.set i y) (vs.set i u)
  | [], _, i, h => by cases (show _ = [] from h); exact rfl
  | x :: xs, _, 0, ⟨v, vt, h1, h2, h3⟩ => by subst h1; exact ⟨u, vt, rfl, r, h3⟩
  | x :: xs, _, i + 1, ⟨v, vt, h1, h2, h3⟩ => by subst h1; exact ⟨v, vt.set i u, rfl, h2, DinL.set r i h3⟩
theorem DinL.erase {K : PySem.W.Frag} {F : Hp} : ∀ {xs : List Dt} {vs : List V} (i : Nat), DinL K F xs vs → DinL K F (xs.eraseIdx i) (vs.eraseIdx i)
  | [], _, i, h => by cases (show _ = [] from h); exact rfl
  | x :: xs, _, 0, ⟨v, vt, h1, h2, h3⟩ => by subst h1; exact h3
  | x :: xs, _, i + 1, ⟨v, vt, h1, h2, h3⟩ => by subst h1; exact ⟨v, vt.eraseIdx i, rfl, h2, DinL.erase i h3⟩
theorem DinL.ints {K : PySem.W.Frag} {F : Hp} : ∀ {ns : List Int} {vs : List V}, DinL K F (ns.map Dt.int) vs → vs = ns.map V.int
  | [], _, h => h
  | n :: ns, _, ⟨v, vt, h1, h2, h3⟩ => by subst h1; cases (show v = .int n from h2); rw [DinL.ints h3]; rfl
theorem DinL.of_ints {K : PySem.W.Frag} {F : Hp} : ∀ (ns : List Int), DinL K F (ns.map Dt.int) (ns.map V.int)
  | [] => rfl
  | n :: ns => ⟨_, _, rfl, rfl, DinL.of_ints ns⟩
theorem DinL.bls {K : PySem.W.Frag} {F : Hp} : ∀ {ns : List Bool} {vs : List V}, DinL K F (ns.map Dt.bl) vs → vs = ns.map V.bl
  | [], _, h => h
  | n :: ns, _, ⟨v, vt, h1, h2, h3⟩ => by subst h1; cases (show v = .bl n from h2); rw [DinL.bls h3]; rfl
theorem DinL.strs {K : PySem.W.Frag} {F : Hp} : ∀ {ns : List Str} {vs : List V}, DinL K F (ns.map Dt.str) vs → vs = ns.map V.str ∧ ∀ s ∈ ns, PyData.strOk s = true
  | [], _, h => ⟨h, fun _ h => nomatch h⟩
  | n :: ns, _, ⟨v, vt, h1, h2, h3⟩ => by
    subst h1
    obtain ⟨e, ok⟩ := (show v = .str n ∧ PyData.strOk n = true from h2)
    obtain ⟨e2, ok2⟩ := DinL.strs h3
    subst e e2
    refine ⟨rfl, fun s hs => ?_⟩
    rcases List.mem_cons.mp hs with rfl | hs
    · exact ok
    · exact ok2 s hs
theorem DinL.of_strs {K : PySem.W.Frag} {F : Hp} : ∀ (ns : List Str), (∀ s ∈ ns, PyData.strOk s = true) → DinL K F (ns.map Dt.str) (ns.map V.str)
  | [], _ => rfl
  | n :: ns, h => ⟨_, _, rfl, ⟨rfl, h n (List.mem_cons_self ..)⟩, DinL.of_strs ns fun s hs => h s (List.mem_cons_of_mem _ hs)⟩

/-! ### the world, the entry, what a state is -/
structure Wd where
  W : Type
  rep : Hp → Hp → W → Prop
  foot : W → Addr → Prop
  free : ∀ {F H : Hp} {w : W} {a : Addr}, rep F H w → foot w a → F a = none ∧ ∃ o, H a = some o
  stay : ∀ {F H F' H' : Hp} {w : W}, rep F H w → Same F F' → (∀ a, foot w a → F' a = none ∧ H' a = H a) → rep F' H' w

structure Ent (U : Wd) where
  F : Hp
  H : Hp
  w : U.W

structure Bas (U : Wd) (e : Ent U) (F : Hp) (w : U.W) (H : Hp) : Prop where
  fh : Same F H
  rep : U.rep F H w
  f : Same e.F F
  keep : ∀ b o, e.H b = some o → ¬ U.foot e.w b → H b = some o
  there : ∀ b o, e.H b = some o → ∃ o', H b = some o'
  new : ∀ b o, F b = some o → e.F b = none → e.H b = none
  foot : ∀ b, U.foot w b → U.foot e.w b ∨ e.H b = none

inductive Slot where
  | d (x : Dt)
  | own (xs : List Dt)
abbrev Rho := List (Option Slot)

structure Own (U : Wd) (e : Ent U) (F : Hp) (w : U.W) (H : Hp) (l : Addr) (vs : List V) : Prop where
  hl : H l = some (.lst vs)
  fl : F l = none
  nf : ¬ U.foot w l
  el : e.H l = none

structure Rel (U : Wd) (K : PySem.W.Frag) (e : Ent U) (F : Hp) (ρ : Rho) (w : U.W) (σ : St) (H : Hp) : Prop where
  bas : Bas U e F w H
  slot : ∀ (i : Nat) x, ρ[i]? = some (some (.d x)) → ∃ v, σ[i]? = some (some v) ∧ Din K F x v
  own : ∀ (i : Nat) xs, ρ[i]? = some (some (.own xs)) → ∃ l vs, σ[i]? = some (some (.ref l)) ∧ Own U e F w H l vs ∧ DinL K F xs vs
  inj : ∀ (i j : Nat) xs ys l, ρ[i]? = some (some (.own xs)) → ρ[j]? = some (some (.own ys)) → σ[i]? = some (some (.ref l)) → σ[j]? = some (some (.ref l)) → i = j
  len : ρ.length = σ.length

section
variable {U : Wd} {K : PySem.W.Frag} {e : Ent U} {F : Hp} {ρ : Rho} {w : U.W} {σ : St} {H : Hp}

theorem Bas.start {F H : Hp} {w : U.W} (fh : Same F H) (rep : U.rep F H w) : Bas U ⟨F, H, w⟩ F w H :=
  ⟨fh, rep, Same.refl _, fun _ _ h _ => h, fun _ o h => ⟨o, h⟩, fun b u h h' => (by have z : F b = none := h'; rw [z] at h; cases h), fun _ h => .inl h⟩
/-- a new thing is laid and frozen -/
theorem Bas.laid (B : Bas U e F w H) {p : Addr} (hp : H p = none) (o : HO) : Bas U e (upd F p o) w (upd H p o) := by
  have fp : F p = none := B.fh.free hp
  have ep : e.H p = none := by
    cases q : e.H p with
    | none => rfl
    | some o' => obtain ⟨o2, h2⟩ := B.there p o' q; rw [hp] at h2; cases h2
  have nf : ∀ a, U.foot w a → a ≠ p := fun a h z => by
    obtain ⟨_, o2, h2⟩ := B.rep |> fun r => U.free r h
    rw [z, hp] at h2; cases h2
  refine ⟨fun b u h => ?_, U.stay B.rep (fun b u h => by rw [upd_ne (ne_of_none h fp)]; exact h) fun a h => ⟨by rw [upd_ne (nf a h)]; exact (U.free B.rep h).1, upd_ne (nf a h)⟩, fun b u h => ?_, fun b u h hf => ?_, fun b u h => ?_, fun b u h h0 => ?_, B.foot⟩
  · by_cases hb : b = p
    · subst hb; rw [upd_same] at h ⊢; exact h
    · rw [upd_ne hb] at h ⊢; exact B.fh _ _ h
  · rw [upd_ne (ne_of_none (B.f _ _ h) fp)]; exact B.f _ _ h
  · rw [upd_ne (ne_of_none h ep)]; exact B.keep _ _ h hf
  · rw [upd_ne (ne_of_none h ep)]; exact B.there _ _ h
  · by_cases hb : b = p
    · rw [hb]; exact ep
    · rw [upd_ne hb] at h; exact B.new _ _ h h0
/-- a new list of our own is laid -/
theorem Bas.mine (B : Bas U e F w H) {p : Addr} (hp : H p = none) (o : HO) : Bas U e F w (upd H p o) ∧ F p = none ∧ ¬ U.foot w p ∧ e.H p = none := by
  have fp : F p = none := B.fh.free hp
  have ep : e.H p = none := by
    cases q : e.H p with
    | none => rfl
    | some o' => obtain ⟨o2, h2⟩ := B.there p o' q; rw [hp] at h2; cases h2
  have nf : ∀ a, U.foot w a → a ≠ p := fun a h z => by
    obtain ⟨_, o2, h2⟩ := B.rep |> fun r => U.free r h
    rw [z, hp] at h2; cases h2
  refine ⟨⟨fun b u h => ?_, U.stay B.rep (Same.refl _) fun a h => ⟨(U.free B.rep h).1, upd_ne (nf a h)⟩, B.f, fun b u h hf => ?_, fun b u h => ?_, B.new, B.foot⟩, fp, fun h => nf p h rfl, ep⟩
  · rw [upd_ne (ne_of_none h fp)]; exact B.fh _ _ h
  · rw [upd_ne (ne_of_none h ep)]; exact B.keep _ _ h hf
  · rw [upd_ne (ne_of_none h ep)]; exact B.there _ _ h
/-- a list of our own is written -/
theorem Bas.write (B : Bas U e F w H) {p : Addr} {vs : List V} (O : Own U e F w H p vs) (vs' : List V) : Bas U e F w (upd H p (.lst vs')) ∧ Own U e F w (upd H p (.lst vs')) p vs' := by
  have nf : ∀ a, U.foot w a → a ≠ p := fun a h z => O.nf (z ▸ h)
  refine ⟨⟨fun b u h => ?_, U.stay B.rep (Same.refl _) fun a h => ⟨(U.free B.rep h).1, upd_ne (nf a h)⟩, B.f, fun b u h hf => ?_, fun b u h => ?_, B.new, B.foot⟩, upd_same, O.fl, O.nf, O.el⟩
  · rw [upd_ne (ne_of_none h O.fl)]; exact B.fh _ _ h
  · rw [upd_ne (ne_of_none h O.el)]; exact B.keep _ _ h hf
  · rw [upd_ne (ne_of_none h O.el)]; exact B.there _ _ h
/-- a list of our own is frozen -/
theorem Bas.freeze (B : Bas U e F w H) {p : Addr} {vs : List V} (O : Own U e F w H p vs) : Bas U e (upd F p (.lst vs)) w H ∧ Same F (upd F p (.lst vs)) := by
  have nf : ∀ a, U.foot w a → a ≠ p := fun a h z => O.nf (z ▸ h)
  have sf : Same F (upd F p (.lst vs)) := fun b u h => by rw [upd_ne (ne_of_none h O.fl)]; exact h
  refine ⟨⟨fun b u h => ?_, U.stay B.rep sf fun a h => ⟨by rw [upd_ne (nf a h)]; exact (U.free B.rep h).1, rfl⟩, B.f.trans sf, B.keep, B.there, fun b u h h0 => ?_, B.foot⟩, sf⟩
  · by_cases hb : b = p
    · subst hb; rw [upd_same] at h; cases h; exact O.hl
    · rw [upd_ne hb] at h; exact B.fh _ _ h
  · by_cases hb : b = p
    · rw [hb]; exact O.el
    · rw [upd_ne hb] at h; exact B.new _ _ h h0

/-- a list that came new, in nobody's slot -/
structure Fresh (U : Wd) (e : Ent U) (F : Hp) (ρ : Rho) (w : U.W) (σ : St) (H : Hp) (l : Addr) (vs : List V) : Prop where
  own : Own U e F w H l vs
  out : ∀ (i : Nat) xs, ρ[i]? = some (some (.own xs)) → σ[i]? ≠ some (some (.ref l))

theorem Rel.laid (R : Rel U K e F ρ w σ H) {p : Addr} (hp : H p = none) (o : HO) : Rel U K e (upd F p o) ρ w σ (upd H p o) ∧ Same F (upd F p o) := by
  have fp : F p = none := R.bas.fh.free hp
  have sf : Same F (upd F p o) := fun b u h => by rw [upd_ne (ne_of_none h fp)]; exact h
  refine ⟨⟨R.bas.laid hp o, fun i x h => ?_, fun i xs h => ?_, R.inj, R.len⟩, sf⟩
  · obtain ⟨v, h1, h2⟩ := R.slot i x h
    exact ⟨v, h1, Din.mono sf _ _ h2⟩
  · obtain ⟨l, vs, h1, O, h3⟩ := R.own i xs h
    have lp : l ≠ p := ne_of_none O.hl hp
    exact ⟨l, vs, h1, ⟨by rw [upd_ne lp]; exact O.hl, by rw [upd_ne lp]; exact O.fl, O.nf, O.el⟩, DinL.mono sf _ _ h3⟩
theorem Rel.mine (R : Rel U K e F ρ w σ H) {p : Addr} (hp : H p = none) (vs : List V) : Rel U K e F ρ w σ (upd H p (.lst vs)) ∧ Fresh U e F ρ w σ (upd H p (.lst vs)) p vs := by
  obtain ⟨B, fp, nf, ep⟩ := R.bas.mine hp (.lst vs)
  refine ⟨⟨B, R.slot, fun i xs h => ?_, R.inj, R.len⟩, ⟨upd_same, fp, nf, ep⟩, fun i xs h h' => ?_⟩
  · obtain ⟨l, us, h1, O, h3⟩ := R.own i xs h
    have lp : l ≠ p := ne_of_none O.hl hp
    exact ⟨l, us, h1, ⟨by rw [upd_ne lp]; exact O.hl, O.fl, O.nf, O.el⟩, h3⟩
  · obtain ⟨l, us, h1, O, h3⟩ := R.own i xs h
    rw [h'] at h1; cases h1
    have z := O.hl
    rw [hp] at z; cases z
/-- the new list is frozen -/
theorem Rel.freeze (R : Rel U K e F ρ w σ H) {l : Addr} {vs : List V} (O : Fresh U e F ρ w σ H l vs) : Rel U K e (upd F l (.lst vs)) ρ w σ H ∧ Same F (upd F l (.lst vs)) := by
  obtain ⟨B, sf⟩ := R.bas.freeze O.own
  refine ⟨⟨B, fun i x h => ?_, fun i xs h => ?_, R.inj, R.len⟩, sf⟩
  · obtain ⟨v, h1, h2⟩ := R.slot i x h
    exact ⟨v, h1, Din.mono sf _ _ h2⟩
  · obtain ⟨k, us, h1, O2, h3⟩ := R.own i xs h
    have kl : k ≠ l := fun z => O.out i xs h (z ▸ h1)
    exact ⟨k, us, h1, ⟨O2.hl, by rw [upd_ne kl]; exact O2.fl, O2.nf, O2.el⟩, DinL.mono sf _ _ h3⟩
/-- a slot gets a datum -/
theorem Rel.set (R : Rel U K e F ρ w σ H) {x : Dt} {v : V} (h : Din K F x v) (i : Nat) : Rel U K e F (ρ.set i (some (.d x))) w (σ.set i (some v)) H := by
  have hl := R.len
  refine ⟨R.bas, fun j y hj => ?_, fun j xs hj => ?_, fun j k xs ys l h1 h2 h3 h4 => ?_, by rw [List.length_set, List.length_set]; exact hl⟩
  · by_cases e : i = j
    · subst e
      have q := (List.getElem?_eq_some_iff.mp hj).1
      rw [List.length_set] at q
      rw [List.getElem?_set_self q] at hj
      cases hj
      exact ⟨v, List.getElem?_set_self (by omega), h⟩
    · rw [List.getElem?_set_ne e] at hj ⊢
      exact R.slot j y hj
  · by_cases e : i = j
    · subst e
      have q := (List.getElem?_eq_some_iff.mp hj).1
      rw [List.length_set] at q
      rw [List.getElem?_set_self q] at hj
      cases hj
    · rw [List.getElem?_set_ne e] at hj ⊢
      exact R.own j xs hj
  · have ne : ∀ {j : Nat} {xs}, (ρ.set i (some (.d x)))[j]? = some (some (.own xs)) → i ≠ j := fun {j xs} hj e => by
      subst e
      have q := (List.getElem?_eq_some_iff.mp hj).1
      rw [List.length_set] at q
      rw [List.getElem?_set_self q] at hj
      cases hj
    have n1 := ne h1
    have n2 := ne h2
    rw [List.getElem?_set_ne n1] at h1 h3
    rw [List.getElem?_set_ne n2] at h2 h4
    exact R.inj j k xs ys l h1 h2 h3 h4
/-- a slot gets a new list of our own -/
theorem Rel.setOwn (R : Rel U K e F ρ w σ H) {l : Addr} {vs : List V} {xs : List Dt} (O : Fresh U e F ρ w σ H l vs) (h : DinL K F xs vs) (i : Nat) : Rel U K e F (ρ.set i (some (.own xs))) w (σ.set i (some (.ref l))) H := by
  have hl := R.len
  have at_i : ∀ {j : Nat} {s : Slot}, i = j → (ρ.set i (some (.own xs)))[j]? = some (some s) → s = .own xs ∧ i < ρ.length := fun {j s} e hj => by
    subst e
    have q := (List.getElem?_eq_some_iff.mp hj).1
    rw [List.length_set] at q
    rw [List.getElem?_set_self q] at hj
    cases hj
    exact ⟨rfl, q⟩
  refine ⟨R.bas, fun j y hj => ?_, fun j ys hj => ?_, fun j k ys zs m h1 h2 h3 h4 => ?_, by rw [List.length_set, List.length_set]; exact hl⟩
  · by_cases e : i = j
    · cases (at_i e hj).1
    · rw [List.getElem?_set_ne e] at hj ⊢
      exact R.slot j y hj
  · by_cases e : i = j
    · obtain ⟨e1, q⟩ := at_i e hj
      cases e1
      subst e
      exact ⟨l, vs, List.getElem?_set_self (by omega), O.own, h⟩
    · rw [List.getElem?_set_ne e] at hj ⊢
      exact R.own j ys hj
  · by_cases e : i = j
    · by_cases e2 : i = k
      · exact e.symm.trans e2
      · obtain ⟨_, q⟩ := at_i e h1
        subst e
        rw [List.getElem?_set_self (by omega)] at h3
        cases h3
        rw [List.getElem?_set_ne e2] at h2 h4
        exact absurd h4 (O.out k zs h2)
    · by_cases e2 : i = k
      · obtain ⟨_, q⟩ := at_i e2 h2
        subst e2
        rw [List.getElem?_set_self (by omega)] at h4
        cases h4
        rw [List.getElem?_set_ne e] at h1 h3
        exact absurd h3 (O.out j ys h1)
      · rw [List.getElem?_set_ne e] at h1 h3
        rw [List.getElem?_set_ne e2] at h2 h4
        exact R.inj j k ys zs m h1 h2 h3 h4
/-- our list in slot i is written -/
theorem Rel.wr (R : Rel U K e F ρ w σ H) {i : Nat} {xs : List Dt} {l : Addr} {vs vs' : List V} {xs' : List Dt} (hi : ρ[i]? = some (some (.own xs))) (hs : σ[i]? = some (some (.ref l))) (O : Own U e F w H l vs) (h : DinL K F xs' vs') :
    Rel U K e F (ρ.set i (some (.own xs'))) w σ (upd H l (.lst vs')) := by
  obtain ⟨B, O'⟩ := R.bas.write O vs'
  have q := (List.getElem?_eq_some_iff.mp hi).1
  have old : ∀ {j : Nat} {ys}, (ρ.set i (some (.own xs')))[j]? = some (some (.own ys)) → ∃ zs, ρ[j]? = some (some (.own zs)) := fun {j ys} hj => by
    by_cases e : i = j
    · subst e; exact ⟨xs, hi⟩
    · rw [List.getElem?_set_ne e] at hj; exact ⟨ys, hj⟩
  refine ⟨B, fun j y hj => ?_, fun j ys hj => ?_, fun j k ys zs m h1 h2 h3 h4 => ?_, by rw [List.length_set]; exact R.len⟩
  · by_cases e : i = j
    · subst e
      rw [List.getElem?_set_self q] at hj
      cases hj
    · rw [List.getElem?_set_ne e] at hj
      exact R.slot j y hj
  · by_cases e : i = j
    · subst e
      rw [List.getElem?_set_self q] at hj
      cases hj
      exact ⟨l, vs', hs, O', h⟩
    · rw [List.getElem?_set_ne e] at hj
      obtain ⟨k, us, h1, O2, h3⟩ := R.own j ys hj
      have kl : k ≠ l := fun z => e (R.inj i j xs ys l hi hj hs (z ▸ h1))
      exact ⟨k, us, h1, ⟨by rw [upd_ne kl]; exact O2.hl, O2.fl, O2.nf, O2.el⟩, h3⟩
  · obtain ⟨y1, g1⟩ := old h1
    obtain ⟨y2, g2⟩ := old h2
    exact R.inj j k y1 y2 m g1 g2 h3 h4
/-- our list in slot i is frozen -/
theorem Rel.ice (R : Rel U K e F ρ w σ H) {i : Nat} {xs : List Dt} (hi : ρ[i]? = some (some (.own xs))) : ∃ F', Rel U K e F' (ρ.set i (some (.d (.lst xs)))) w σ H ∧ Same F F' := by
  obtain ⟨l, vs, hs, O, h⟩ := R.own i xs hi
  obtain ⟨B, sf⟩ := R.bas.freeze O
  have q := (List.getElem?_eq_some_iff.mp hi).1
  refine ⟨_, ⟨B, fun j y hj => ?_, fun j ys hj => ?_, fun j k ys zs m h1 h2 h3 h4 => ?_, by rw [List.length_set]; exact R.len⟩, sf⟩
  · by_cases e : i = j
    · subst e
      rw [List.getElem?_set_self q] at hj
      cases hj
      exact ⟨_, hs, l, vs, rfl, upd_same, DinL.mono sf _ _ h⟩
    · rw [List.getElem?_set_ne e] at hj
      obtain ⟨v, h1, h2⟩ := R.slot j y hj
      exact ⟨v, h1, Din.mono sf _ _ h2⟩
  · by_cases e : i = j
    · subst e
      rw [List.getElem?_set_self q] at hj
      cases hj
    · rw [List.getElem?_set_ne e] at hj
      obtain ⟨k, us, h1, O2, h3⟩ := R.own j ys hj
      have kl : k ≠ l := fun z => e (R.inj i j xs ys l hi hj hs (z ▸ h1))
      exact ⟨k, us, h1, ⟨O2.hl, by rw [upd_ne kl]; exact O2.fl, O2.nf, O2.el⟩, DinL.mono sf _ _ h3⟩
  · have ne : ∀ {j : Nat} {ys}, (ρ.set i (some (.d (.lst xs))))[j]? = some (some (.own ys)) → i ≠ j := fun {j ys} hj e => by
      subst e
      rw [List.getElem?_set_self q] at hj
      cases hj
    rw [List.getElem?_set_ne (ne h1)] at h1
    rw [List.getElem?_set_ne (ne h2)] at h2
    exact R.inj j k ys zs m h1 h2 h3 h4
end
end DL

set_option Elab.async false
set_option linter.all false
set_option maxRecDepth 100000
set_option maxHeartbeats 4000000
namespace DL
open PySem L2

/-! ### borrowed values -/
def BorV (K : PySem.W.Frag) (F : Hp) (ρ : Rho) (σ : St) (x : Dt) (v : V) : Prop :=
  Din K F x v ∨ ∃ (i : Nat) (xs : List Dt) (l : Addr), ρ[i]? = some (some (.own xs)) ∧ x = .lst xs ∧ σ[i]? = some (some (.ref l)) ∧ v = .ref l
theorem BorV.mono {K : PySem.W.Frag} {F F' : Hp} {ρ : Rho} {σ : St} {x : Dt} {v : V} (e : Same F F') (h : BorV K F ρ σ x v) : BorV K F' ρ σ x v := h.imp (Din.mono e x v) id
/-- what a borrowed list holds -/
theorem Rel.bor {U : Wd} {K : PySem.W.Frag} {e : Ent U} {F : Hp} {ρ : Rho} {w : U.W} {σ : St} {H : Hp} (R : Rel U K e F ρ w σ H) {xs : List Dt} {v : V} (h : BorV K F ρ σ (.lst xs) v) : ∃ l vs, v = .ref l ∧ H l = some (.lst vs) ∧ DinL K F xs vs := by
  rcases h with ⟨a, vs, h1, h2, h3⟩ | ⟨i, ys, l, h1, h2, h3, h4⟩
  · exact ⟨a, vs, h1, R.bas.fh _ _ h2, h3⟩
  · cases h2
    obtain ⟨l2, vs, g1, O, g3⟩ := R.own i xs h1
    rw [h3] at g1; cases g1
    exact ⟨l, vs, h4, O.hl, g3⟩
theorem BorV.din {K : PySem.W.Frag} {F : Hp} {ρ : Rho} {σ : St} {x : Dt} {v : V} (h : BorV K F ρ σ x v) (n : ∀ xs, x ≠ .lst xs) : Din K F x v := by
  rcases h with h | ⟨i, ys, l, h1, h2, h3, h4⟩
  · exact h
  · exact absurd h2 (n ys)
theorem BorV.int {K : PySem.W.Frag} {F : Hp} {ρ : Rho} {σ : St} {i : Int} {v : V} (h : BorV K F ρ σ (.int i) v) : v = .int i := h.din (fun _ z => nomatch z)
theorem BorV.bl {K : PySem.W.Frag} {F : Hp} {ρ : Rho} {σ : St} {i : Bool} {v : V} (h : BorV K F ρ σ (.bl i) v) : v = .bl i := h.din (fun _ z => nomatch z)
theorem BorV.non {K : PySem.W.Frag} {F : Hp} {ρ : Rho} {σ : St} {v : V} (h : BorV K F ρ σ .non v) : v = .non := h.din (fun _ z => nomatch z)
theorem BorV.str {K : PySem.W.Frag} {F : Hp} {ρ : Rho} {σ : St} {s : Str} {v : V} (h : BorV K F ρ σ (.str s) v) : v = .str s ∧ PyData.strOk s = true := h.din (fun _ z => nomatch z)
theorem BorV.tup {K : PySem.W.Frag} {F : Hp} {ρ : Rho} {σ : St} {xs : List Dt} {v : V} (h : BorV K F ρ σ (.tup xs) v) : ∃ a vs, v = .ref a ∧ SqT K F a vs ∧ DinL K F xs vs := h.din (fun _ z => nomatch z)

/-! ### the judgements -/
abbrev TD (U : Wd) := Rho → U.W → (Dt → U.W → Prop) → Prop
abbrev TDL (U : Wd) := Rho → U.W → (List Dt → U.W → Prop) → Prop
abbrev TDT (U : Wd) := Rho → U.W → (Bool → U.W → Prop) → Prop
section
variable (U : Wd) (K : PySem.W.Frag) (e : Ent U)
def up (t : TD U) : TE := fun σ H Q => ∃ F ρ w Q', Rel U K e F ρ w σ H ∧ t ρ w Q' ∧ ∀ x v F' w' H', Q' x w' → Rel U K e F' ρ w' σ H' → Same F F' → Din K F' x v → Q v H'
def upB (t : TD U) : TE := fun σ H Q => ∃ F ρ w Q', Rel U K e F ρ w σ H ∧ t ρ w Q' ∧ ∀ x v F' w' H', Q' x w' → Rel U K e F' ρ w' σ H' → Same F F' → BorV K F' ρ σ x v → Q v H'
def upL (t : TDL U) : TE := fun σ H Q => ∃ F ρ w Q', Rel U K e F ρ w σ H ∧ t ρ w Q' ∧ ∀ xs l vs F' w' H', Q' xs w' → Rel U K e F' ρ w' σ H' → Same F F' → Fresh U e F' ρ w' σ H' l vs → DinL K F' xs vs → Q (.ref l) H'
def upA (t : TDL U) : TA := fun σ H Q => ∃ F ρ w Q', Rel U K e F ρ w σ H ∧ t ρ w Q' ∧ ∀ xs vs F' w' H', Q' xs w' → Rel U K e F' ρ w' σ H' → Same F F' → DinL K F' xs vs → Q vs H'
def upT (t : TDT U) : TT := fun σ H Q => ∃ F ρ w Q', Rel U K e F ρ w σ H ∧ t ρ w Q' ∧ ∀ b F' w' H', Q' b w' → Rel U K e F' ρ w' σ H' → Same F F' → Q b H'
end
/-- a datum (it may be kept) -/
structure DE (X : Cx) (U : Wd) (ex : Expr) (t : TD U) : Prop where
  run : ∀ e, PE X ex (up U X.K e t)
/-- a datum that is only looked at -/
structure DB (X : Cx) (U : Wd) (ex : Expr) (t : TD U) : Prop where
  run : ∀ e, PE X ex (upB U X.K e t)
/-- a new list -/
structure DF (X : Cx) (U : Wd) (ex : Expr) (t : TDL U) : Prop where
  run : ∀ e, PE X ex (upL U X.K e t)
structure DA (X : Cx) (U : Wd) (es : List Expr) (t : TDL U) : Prop where
  run : ∀ e, PA X es (upA U X.K e t)
structure DT (X : Cx) (U : Wd) (ex : Expr) (t : TDT U) : Prop where
  run : ∀ e, PT X ex (upT U X.K e t)
structure DW (X : Cx) (U : Wd) (ex : Expr) (t : TDT U) : Prop where
  run : ∀ e, PW X ex (upT U X.K e t)

section
variable {X : Cx} {U : Wd} {a b c ex : Expr} {ta tb tc : TD U} {pos : Pos}
theorem _root_.L2.PE.weak {t t' : TE} (h : PE X ex t) (i : ∀ σ H Q, t' σ H Q → t σ H Q) : PE X ex t' := ⟨fun pins s σ H Q I q => h.run pins s σ H Q I (i σ H Q q)⟩
theorem _root_.L2.PT.weak {t t' : TT} (h : PT X ex t) (i : ∀ σ H Q, t' σ H Q → t σ H Q) : PT X ex t' := ⟨fun pins s σ H Q I q => h.run pins s σ H Q I (i σ H Q q)⟩
theorem _root_.L2.PW.weak {t t' : TT} (h : PW X ex t) (i : ∀ σ H Q, t' σ H Q → t σ H Q) : PW X ex t' := ⟨fun wh pins s σ H Q I q => h.run wh pins s σ H Q I (i σ H Q q)⟩
theorem _root_.L2.PA.weak {es : List Expr} {t t' : TA} (h : PA X es t) (i : ∀ σ H Q, t' σ H Q → t σ H Q) : PA X es t' := ⟨fun pos pins s σ H Q I q => h.run pos pins s σ H Q I (i σ H Q q)⟩

/-- a datum looked at -/
theorem DE.bo (h : DE X U ex ta) : DB X U ex ta := ⟨fun e => (h.run e).weak fun σ H Q ⟨F, ρ, w, Q', R, q, k⟩ => ⟨F, ρ, w, Q', R, q, fun x v F' w' H' q' R' s d => k x v F' w' H' q' R' s (.inl d)⟩⟩
/-- a new list as a datum -/
def dL (t : TDL U) : TD U := fun ρ w Q => t ρ w fun xs w' => Q (.lst xs) w'
theorem DF.de {t : TDL U} (h : DF X U ex t) : DE X U ex (dL t) := ⟨fun e => (h.run e).weak fun σ H Q ⟨F, ρ, w, Q', R, q, k⟩ => ⟨F, ρ, w, _, R, q, fun xs l vs F' w' H' q' R' s O d => by
  obtain ⟨R2, s2⟩ := R'.freeze O
  exact k (.lst xs) (.ref l) _ w' H' q' R2 (s.trans s2) ⟨l, vs, rfl, upd_same, DinL.mono s2 _ _ d⟩⟩⟩
theorem DF.bo {t : TDL U} (h : DF X U ex t) : DB X U ex (dL t) := h.de.bo

/-! ### names and constants -/
def dVar (i : Nat) : TD U := fun ρ w Q => match ρ[i]? with
  | some (some (.d x)) => Q x w
  | _ => False
theorem de_var (i : Nat) {x : Str} {pos : Pos} (hN : X.N[i]? = some x := by rfl) (hv : Vis X.env.scope x := by first | exact Or.inl rfl | exact Or.inr (Or.inl rfl) | exact Or.inr (Or.inr rfl)) (hd : (x == ("__debug__" : Str)) = false := by decide)
    (hcd : (x == ("__classdict__" : Str)) = false := by decide) : DE X U (.Name x pos) (dVar i) := ⟨fun e => (pe_var hN hv hd hcd).weak fun σ H Q ⟨F, ρ, w, Q', R, q, k⟩ => by
  unfold dVar at q
  split at q
  · rename_i y hy
    obtain ⟨v, h1, h2⟩ := R.slot i y hy
    exact ⟨v, h1, k y v F w H q R (Same.refl _) h2⟩
  · exact q.elim⟩
/-- our own list, looked at -/
def dOwn (i : Nat) : TD U := fun ρ w Q => match ρ[i]? with
  | some (some (.own xs)) => Q (.lst xs) w
  | _ => False
theorem db_own (i : Nat) {x : Str} {pos : Pos} (hN : X.N[i]? = some x := by rfl) (hv : Vis X.env.scope x := by first | exact Or.inl rfl | exact Or.inr (Or.inl rfl) | exact Or.inr (Or.inr rfl)) (hd : (x == ("__debug__" : Str)) = false := by decide)
    (hcd : (x == ("__classdict__" : Str)) = false := by decide) : DB X U (.Name x pos) (dOwn i) := ⟨fun e => (pe_var hN hv hd hcd).weak fun σ H Q ⟨F, ρ, w, Q', R, q, k⟩ => by
  unfold dOwn at q
  split at q
  · rename_i xs hy
    obtain ⟨l, vs, h1, O, h3⟩ := R.own i xs hy
    exact ⟨.ref l, h1, k _ _ F w H q R (Same.refl _) (.inr ⟨i, xs, l, hy, rfl, h1, rfl⟩)⟩
  · exact q.elim⟩
def dC (x : Dt) : TD U := fun _ w Q => Q x w
theorem de_c {x : Dt} {v : V} (h : PE X ex (tC v)) (d : ∀ F, Din X.K F x v) : DE X U ex (dC x) := ⟨fun e => h.weak fun σ H Q ⟨F, ρ, w, Q', R, q, k⟩ => k x v F w H q R (Same.refl _) (d F)⟩
theorem de_int {i j pos} : DE X U (.Constant (.int i) j pos) (dC (.int i)) := de_c pe_int fun _ => rfl
theorem de_bl {i j pos} : DE X U (.Constant (.bool i) j pos) (dC (.bl i)) := de_c pe_bl fun _ => rfl
theorem de_non {j pos} : DE X U (.Constant .none j pos) (dC .non) := de_c pe_non fun _ => rfl
theorem de_str {x j pos} (h : PyData.strOk x = true := by decide +kernel) : DE X U (.Constant (.str x) j pos) (dC (.str x)) := de_c pe_str fun _ => ⟨rfl, h⟩
/-- a constant of the module -/
theorem de_glob {x : Str} {d : Dt} {v : V} {u : Value} {pos : Pos} (hg : Gl X x) (hm : X.mg x = some u) (r : RelV v u) (h : ∀ F, Din X.K F d v) (hd : (x == ("__debug__" : Str)) = false := by decide) : DE X U (.Name x pos) (dC d) :=
  de_c (pe_glob hg hm r hd) h

/-! ### two-place operations by values -/
structure Bin (U : Wd) (K : PySem.W.Frag) (r : R2) (g : Dt → Dt → (Dt → Prop) → Prop) : Prop where
  run : ∀ (e : Ent U) (F : Hp) (ρ : Rho) (w : U.W) (σ : St) (H : Hp) (x y : Dt) (v u : V) (Q : VK) (Q' : Dt → Prop), Rel U K e F ρ w σ H → BorV K F ρ σ x v → BorV K F ρ σ y u → g x y Q' →
    (∀ z v' F' H', Q' z → Rel U K e F' ρ w σ H' → Same F F' → Din K F' z v' → Q v' H') → r v u H Q
def dOp (g : Dt → Dt → (Dt → Prop) → Prop) (ta tb : TD U) : TD U := fun ρ w Q => ta ρ w fun x w1 => tb ρ w1 fun y w2 => g x y fun z => Q z w2
theorem up_op {r : R2} {g : Dt → Dt → (Dt → Prop) → Prop} (B : Bin U X.K r g) (e : Ent U) {σ : St} {H : Hp} {Q : VK} (h : up U X.K e (dOp g ta tb) σ H Q) : tOp r (upB U X.K e ta) (upB U X.K e tb) σ H Q := by
  obtain ⟨F, ρ, w, Q', R, q, k⟩ := h
  exact ⟨F, ρ, w, _, R, q, fun x v F1 w1 H1 q1 R1 s1 b1 => ⟨F1, ρ, w1, _, R1, q1, fun y u F2 w2 H2 q2 R2 s2 b2 => B.run e F2 ρ w2 σ H2 x y v u Q _ R2 (b1.mono s2) b2 q2
    fun z v' F' H' q' R' s' d' => k z v' F' w2 H' q' R' (s1.trans (s2.trans s')) d'⟩⟩
theorem de_op {op : Operator} {r : R2} {g : Dt → Dt → (Dt → Prop) → Prop} (ho : OpR X (binaryOp op) r) (B : Bin U X.K r g) (ha : DB X U a ta) (hb : DB X U b tb) : DE X U (.BinOp a op b pos) (dOp g ta tb) :=
  ⟨fun e => (pe_op ho (ha.run e) (hb.run e)).weak fun σ H Q h => up_op B e h⟩
theorem de_cmp {op : CmpOp} {r : R2} {g : Dt → Dt → (Dt → Prop) → Prop} (ho : OpR X (compareOp op) r) (B : Bin U X.K r g) (ha : DB X U a ta) (hb : DB X U b tb) (hm : behindInMarks op b = false) : DE X U (.Compare a [op] [b] pos) (dOp g ta tb) :=
  ⟨fun e => (pe_cmpR ho (ha.run e) (hb.run e) hm).weak fun σ H Q h => up_op B e h⟩
/-- a bool as a test -/
def dTst (t : TD U) : TDT U := fun ρ w Q => t ρ w fun x w1 => match x with
  | .bl k => Q k w1
  | _ => False
theorem dt_of {r : R2} {g : Dt → Dt → (Dt → Prop) → Prop} (B : Bin U X.K r g) (e : Ent U) {σ : St} {H : Hp} {Q : Bool → Hp → Prop} (h : upT U X.K e (dTst (dOp g ta tb)) σ H Q) : tTest (tOp r (upB U X.K e ta) (upB U X.K e tb)) σ H Q := by
  obtain ⟨F, ρ, w, Q', R, q, k⟩ := h
  refine up_op (U := U) (X := X) (ta := ta) (tb := tb) (Q := fun x H' => ∃ k, x = .bl k ∧ Q k H') B e ⟨F, ρ, w, _, R, q, fun x v F' w' H' q' R' s' d' => ?_⟩
  cases x with
  | bl b => exact ⟨b, d', k b F' w' H' q' R' s'⟩
  | _ => exact q'.elim
theorem dt_cmp {op : CmpOp} {r : R2} {g : Dt → Dt → (Dt → Prop) → Prop} (ho : OpR X (compareOp op) r) (B : Bin U X.K r g) (ha : DB X U a ta) (hb : DB X U b tb) (hm : behindInMarks op b = false) : DT X U (.Compare a [op] [b] pos) (dTst (dOp g ta tb)) :=
  ⟨fun e => (pt_cmpR ho (ha.run e) (hb.run e) hm).weak fun σ H Q h => dt_of B e h⟩
theorem dt_val {t : TD U} (h : DB X U ex t) (he : ∀ whole, isTrue ex X.env whole = (do let v ← whole; standAt ex.pos; holding [v] (truthy v)) := by intro _; rfl) : DT X U ex (dTst t) :=
  ⟨fun e => (pt_val (h.run e) he).weak fun σ H Q ⟨F, ρ, w, Q', R, q, k⟩ => ⟨F, ρ, w, _, R, q, fun x v F' w' H' q' R' s' d' => by
    cases x with
    | bl b => exact ⟨b, d'.bl, k b F' w' H' q' R' s'⟩
    | _ => exact q'.elim⟩⟩
/-- a op b op' c -/
def dChain (g g' : Dt → Dt → (Dt → Prop) → Prop) (ta tb tc : TD U) : TD U := fun ρ w Q => ta ρ w fun x w1 => tb ρ w1 fun y w2 => g x y fun z => match z with
  | .bl k => if k = true then tc ρ w2 fun u w3 => g' y u fun z' => Q z' w3 else Q (.bl false) w2
  | _ => False
theorem up_chain {r r' : R2} {g g' : Dt → Dt → (Dt → Prop) → Prop} (B : Bin U X.K r g) (B' : Bin U X.K r' g') (e : Ent U) {σ : St} {H : Hp} {Q : VK} (h : up U X.K e (dChain g g' ta tb tc) σ H Q) : tChain r r' (upB U X.K e ta) (upB U X.K e tb) (upB U X.K e tc) σ H Q := by
  obtain ⟨F, ρ, w, Q', R, q, k⟩ := h
  refine ⟨F, ρ, w, _, R, q, fun x v F1 w1 H1 q1 R1 s1 b1 => ⟨F1, ρ, w1, _, R1, q1, fun y u F2 w2 H2 q2 R2 s2 b2 => B.run e F2 ρ w2 σ H2 x y v u _ _ R2 (b1.mono s2) b2 q2
    fun z v' F3 H3 q3 R3 s3 d3 => ?_⟩⟩
  cases z with
  | bl kk =>
    refine ⟨kk, d3, ?_⟩
    cases kk with
    | true =>
      replace q3 := (show if true = true then _ else _ from q3)
      rw [if_pos rfl] at q3 ⊢
      exact ⟨F3, ρ, w2, _, R3, q3, fun u' v4 F4 w4 H4 q4 R4 s4 b4 => B'.run e F4 ρ w4 σ H4 y u' u v4 Q _ R4 ((b2.mono s3).mono s4) b4 q4
        fun z' v5 F5 H5 q5 R5 s5 d5 => k z' v5 F5 w4 H5 q5 R5 (s1.trans (s2.trans (s3.trans (s4.trans s5)))) d5⟩
    | false =>
      replace q3 := (show if false = true then _ else _ from q3)
      rw [if_neg Bool.false_ne_true] at q3 ⊢
      exact k (.bl false) (.bl false) F3 w2 H3 q3 R3 (s1.trans (s2.trans s3)) rfl
  | _ => exact q3.elim
theorem de_chain {op op' : CmpOp} {r r' : R2} {g g' : Dt → Dt → (Dt → Prop) → Prop} (ho : OpR X (compareOp op) r) (ho' : OpR X (compareOp op') r') (B : Bin U X.K r g) (B' : Bin U X.K r' g') (ha : DB X U a ta) (hb : DB X U b tb) (hc : DB X U c tc)
    (hm : lastMarks [op, op'] [b, c] = false := by with_unfolding_all rfl) : DE X U (.Compare a [op, op'] [b, c] pos) (dChain g g' ta tb tc) :=
  ⟨fun e => (pe_chain ho ho' (ha.run e) (hb.run e) (hc.run e) hm).weak fun σ H Q h => up_chain B B' e h⟩
theorem dt_chain {op op' : CmpOp} {r r' : R2} {g g' : Dt → Dt → (Dt → Prop) → Prop} (ho : OpR X (compareOp op) r) (ho' : OpR X (compareOp op') r') (B : Bin U X.K r g) (B' : Bin U X.K r' g') (ha : DB X U a ta) (hb : DB X U b tb) (hc : DB X U c tc)
    (hm : lastMarks [op, op'] [b, c] = false := by with_unfolding_all rfl) : DT X U (.Compare a [op, op'] [b, c] pos) (dTst (dChain g g' ta tb tc)) :=
  ⟨fun e => (pt_chain ho ho' (ha.run e) (hb.run e) (hc.run e) hm).weak fun σ H Q ⟨F, ρ, w, Q', R, q, k⟩ => by
    refine up_chain (U := U) (X := X) (ta := ta) (tb := tb) (tc := tc) (Q := fun x H' => ∃ k, x = .bl k ∧ Q k H') B B' e ⟨F, ρ, w, _, R, q, fun x v F' w' H' q' R' s' d' => ?_⟩
    cases x with
    | bl b => exact ⟨b, d', k b F' w' H' q' R' s'⟩
    | _ => exact q'.elim⟩


/-! ### +, -, *, //, % -/
theorem strOk_append {x y : Str} (h : PyData.strOk x = true) (h' : PyData.strOk y = true) : PyData.strOk (x ++ y) = true := by
  have e : (x ++ y).cps = x.cps ++ y.cps := rfl
  unfold PyData.strOk at *
  rw [e, Array.all_append, h, h']; rfl
def gAdd (x y : Dt) (Q : Dt → Prop) : Prop := match x, y with
  | .int i, .int j => Q (.int (i + j))
  | .str i, .str j => i.length + j.length ≤ sizeLine ∧ Q (.str (i ++ j))
  | .tup xs, .tup ys => xs.length + ys.length ≤ sizeLine ∧ Q (.tup (xs ++ ys))
  | _, _ => False
def rAddD (K : PySem.W.Frag) : R2 := fun x y H Q => (rI0 (fun i j => .int (i + j)) x y H Q ∨ (∃ i j, x = .str i ∧ y = .str j ∧ i.length + j.length ≤ sizeLine ∧ Q (.str (i ++ j)) H)) ∨ rCatA K x y H Q
theorem op_addD : OpR X (binaryOp .Add) (rAddD X.K) := OpR.or (OpR.or op_add op_add_str) op_catA
theorem bin_add {K : PySem.W.Frag} : Bin U K (rAddD K) gAdd := ⟨fun e F ρ w σ H x y v u Q Q' R hx hy q k => by
  unfold gAdd at q
  split at q
  · rw [hx.int, hy.int]
    exact .inl (.inl ⟨_, _, rfl, rfl, k _ _ F H q R (Same.refl _) rfl⟩)
  · obtain ⟨e1, o1⟩ := hx.str
    obtain ⟨e2, o2⟩ := hy.str
    rw [e1, e2]
    exact .inl (.inr ⟨_, _, rfl, rfl, q.1, k _ _ F H q.2 R (Same.refl _) ⟨rfl, strOk_append o1 o2⟩⟩)
  · rename_i xs ys
    obtain ⟨p, vs, e1, h1, d1⟩ := hx.tup
    obtain ⟨p2, us, e2, h2, d2⟩ := hy.tup
    subst e1 e2
    have l1 := d1.length
    have l2 := d2.length
    refine .inr ⟨p, p2, vs, us, rfl, rfl, SqT.mono R.bas.fh h1, SqT.mono R.bas.fh h2, by omega, fun z => ?_, fun _ z => ?_, fun _ _ r hr => ?_⟩
    · subst z
      have : xs = [] := List.length_eq_zero_iff.mp l1.symm
      subst this
      exact k _ _ F H q.2 R (Same.refl _) ⟨p2, us, rfl, h2, d2⟩
    · subst z
      have : ys = [] := List.length_eq_zero_iff.mp l2.symm
      subst this
      refine k _ _ F H q.2 R (Same.refl _) ⟨p, vs, rfl, h1, ?_⟩
      rw [List.append_nil]; exact d1
    · obtain ⟨R', s'⟩ := R.laid hr (.tup (vs ++ us))
      exact k _ _ _ _ q.2 R' s' ⟨r, vs ++ us, rfl, .inl (.inl upd_same), DinL.mono s' _ _ (d1.append d2)⟩
  · exact q.elim⟩
theorem de_add (ha : DB X U a ta) (hb : DB X U b tb) : DE X U (.BinOp a .Add b pos) (dOp gAdd ta tb) := de_op op_addD bin_add ha hb
/-- two ints -/
def gI (C : Int → Int → Prop) (f : Int → Int → Dt) (x y : Dt) (Q : Dt → Prop) : Prop := match x, y with
  | .int i, .int j => C i j ∧ Q (f i j)
  | _, _ => False
def gI0 (f : Int → Int → Dt) (x y : Dt) (Q : Dt → Prop) : Prop := match x, y with
  | .int i, .int j => Q (f i j)
  | _, _ => False
theorem bin_int {K : PySem.W.Frag} {C : Int → Int → Prop} {f : Int → Int → V} {g : Int → Int → Dt} (h : ∀ F i j, Din K F (g i j) (f i j)) : Bin U K (rI C f) (gI C g) := ⟨fun e F ρ w σ H x y v u Q Q' R hx hy q k => by
  unfold gI at q
  split at q
  · rw [hx.int, hy.int]
    exact ⟨_, _, rfl, rfl, q.1, k _ _ F H q.2 R (Same.refl _) (h F _ _)⟩
  · exact q.elim⟩
theorem bin_int0 {K : PySem.W.Frag} {f : Int → Int → V} {g : Int → Int → Dt} (h : ∀ F i j, Din K F (g i j) (f i j)) : Bin U K (rI0 f) (gI0 g) := ⟨fun e F ρ w σ H x y v u Q Q' R hx hy q k => by
  unfold gI0 at q
  split at q
  · rw [hx.int, hy.int]
    exact ⟨_, _, rfl, rfl, k _ _ F H q R (Same.refl _) (h F _ _)⟩
  · exact q.elim⟩
abbrev gMinus := gI0 fun i j => .int (i - j)
abbrev gMul := gI CMulW fun i j => .int (i * j)
abbrev gDiv := gI CDivW fun i j => .int (i / j)
abbrev gMod := gI (fun _ j => 0 < j) fun i j => .int (i % j)
abbrev gPow := gI CPow fun i j => .int (i ^ j.toNat)
theorem de_sub (ha : DB X U a ta) (hb : DB X U b tb) : DE X U (.BinOp a .Sub b pos) (dOp gMinus ta tb) := de_op op_sub (bin_int0 fun _ _ _ => rfl) ha hb
theorem de_mul (ha : DB X U a ta) (hb : DB X U b tb) : DE X U (.BinOp a .Mult b pos) (dOp gMul ta tb) := de_op op_mulW (bin_int fun _ _ _ => rfl) ha hb
theorem de_div (ha : DB X U a ta) (hb : DB X U b tb) : DE X U (.BinOp a .FloorDiv b pos) (dOp gDiv ta tb) := de_op op_fdivW (bin_int fun _ _ _ => rfl) ha hb
theorem de_mod (ha : DB X U a ta) (hb : DB X U b tb) : DE X U (.BinOp a .Mod b pos) (dOp gMod ta tb) := de_op op_mod (bin_int fun _ _ _ => rfl) ha hb
theorem de_pow (ha : DB X U a ta) (hb : DB X U b tb) : DE X U (.BinOp a .Pow b pos) (dOp gPow ta tb) := de_op op_pow (bin_int fun _ _ _ => rfl) ha hb
def gU (f : Int → Dt) (x : Dt) (Q : Dt → Prop) : Prop := match x with
  | .int i => Q (f i)
  | _ => False
def dUn (g : Dt → (Dt → Prop) → Prop) (ta : TD U) : TD U := fun ρ w Q => ta ρ w fun x w1 => g x fun z => Q z w1
theorem de_neg (ha : DB X U a ta) : DE X U (.UnaryOp .USub a pos) (dUn (gU fun i => .int (-i)) ta) := ⟨fun e => (pe_un un_neg (ha.run e)).weak fun σ H Q ⟨F, ρ, w, Q', R, q, k⟩ =>
  ⟨F, ρ, w, _, R, q, fun x v F' w' H' q' R' s' d' => by
    cases x with
    | int i => exact ⟨i, d'.int, k _ _ F' w' H' q' R' s' rfl⟩
    | _ => exact q'.elim⟩⟩

/-! ### comparisons -/
def ltS (x y : Str) : Bool := decide (x.cps.toList < y.cps.toList)
def gLt (x y : Dt) (Q : Dt → Prop) : Prop := match x, y with
  | .int i, .int j => Q (.bl (decide (i < j)))
  | .str i, .str j => Q (.bl (ltS i j))
  | _, _ => False
theorem bin_lt {K : PySem.W.Frag} : Bin U K (fun x y H Q => rI0 (fun i j => .bl (decide (i < j))) x y H Q ∨ ∃ i j, x = .str i ∧ y = .str j ∧ Q (.bl (decide (i.cps.toList < j.cps.toList))) H) gLt := ⟨fun e F ρ w σ H x y v u Q Q' R hx hy q k => by
  unfold gLt at q
  split at q
  · rw [hx.int, hy.int]
    exact .inl ⟨_, _, rfl, rfl, k _ _ F H q R (Same.refl _) rfl⟩
  · obtain ⟨e1, o1⟩ := hx.str
    obtain ⟨e2, o2⟩ := hy.str
    rw [e1, e2]
    exact .inr ⟨_, _, rfl, rfl, k _ _ F H q R (Same.refl _) rfl⟩
  · exact q.elim⟩
theorem op_ltD : OpR X (compareOp .Lt) (fun x y H Q => rI0 (fun i j => .bl (decide (i < j))) x y H Q ∨ ∃ i j, x = .str i ∧ y = .str j ∧ Q (.bl (decide (i.cps.toList < j.cps.toList))) H) := OpR.or op_lt op_lt_str
abbrev gLe := gI0 fun i j => .bl (decide (i ≤ j))
abbrev gGt := gI0 fun i j => .bl (decide (j < i))
abbrev gGe := gI0 fun i j => .bl (decide (j ≤ i))
theorem bin_le {K : PySem.W.Frag} : Bin U K (rI0 fun i j => .bl (decide (i ≤ j))) gLe := bin_int0 fun _ _ _ => rfl
theorem bin_gt {K : PySem.W.Frag} : Bin U K (rI0 fun i j => .bl (decide (j < i))) gGt := bin_int0 fun _ _ _ => rfl
theorem bin_ge {K : PySem.W.Frag} : Bin U K (rI0 fun i j => .bl (decide (j ≤ i))) gGe := bin_int0 fun _ _ _ => rfl

/-! ### == -/
mutual
def Dt.py : Dt → PyData
  | .non => .none
  | .bl b => .bool b
  | .int i => .int i
  | .str s => .str s
  | .tup xs => .tuple (Dt.pyL xs)
  | .lst xs => .list (Dt.pyL xs)
  | .ref _ => .dict []
def Dt.pyL : List Dt → List PyData
  | [] => []
  | x :: xs => x.py :: Dt.pyL xs
end
mutual
/-- nothing but data in it -/
def Dt.np : Dt → Bool
  | .tup xs => Dt.npL xs
  | .lst xs => Dt.npL xs
  | .ref _ => false
  | _ => true
def Dt.npL : List Dt → Bool
  | [] => true
  | x :: xs => x.np && Dt.npL xs
end
mutual
def Dt.dep : Dt → Nat
  | .tup xs => Dt.depL xs + 1
  | .lst xs => Dt.depL xs + 1
  | _ => 0
def Dt.depL : List Dt → Nat
  | [] => 0
  | x :: xs => max x.dep (Dt.depL xs)
end
mutual
def eqd : Dt → Dt → Bool
  | .non, .non => true
  | .bl a, .bl b => a == b
  | .bl a, .int j => (if a then 1 else 0) == j
  | .int i, .bl b => i == (if b then 1 else 0)
  | .int i, .int j => i == j
  | .str x, .str y => x == y
  | .lst xs, .lst ys => eqdL xs ys
  | .tup xs, .tup ys => eqdL xs ys
  | _, _ => false
def eqdL : List Dt → List Dt → Bool
  | [], [] => true
  | x :: xs, y :: ys => eqd x y && eqdL xs ys
  | _, _ => false
end
mutual
theorem eqd_py : ∀ x y : Dt, eqd x y = PyData.eqv x.py y.py
  | .non, y => by cases y <;> rfl
  | .bl a, y => by cases y <;> rfl
  | .int i, y => by cases y <;> rfl
  | .str s, y => by cases y <;> rfl
  | .ref a, y => by cases y <;> rfl
  | .tup xs, y => by
    cases y with
    | tup ys => exact eqdL_py xs ys
    | _ => rfl
  | .lst xs, y => by
    cases y with
    | lst ys => exact eqdL_py xs ys
    | _ => rfl
theorem eqdL_py : ∀ xs ys : List Dt, eqdL xs ys = PyData.eqvAll (Dt.pyL xs) (Dt.pyL ys)
  | [], [] => rfl
  | [], _ :: _ => rfl
  | _ :: _, [] => rfl
  | x :: xs, y :: ys => by
    show (eqd x y && eqdL xs ys) = (PyData.eqv x.py y.py && PyData.eqvAll (Dt.pyL xs) (Dt.pyL ys))
    rw [eqd_py x y, eqdL_py xs ys]
end
mutual
theorem dep_py : ∀ x : Dt, x.np = true → x.py.depth = x.dep
  | .non, _ => rfl
  | .bl _, _ => rfl
  | .int _, _ => rfl
  | .str _, _ => rfl
  | .ref _, h => by cases (show false = true from h)
  | .tup xs, h => congrArg (· + 1) (depL_py xs h)
  | .lst xs, h => congrArg (· + 1) (depL_py xs h)
theorem depL_py : ∀ xs : List Dt, Dt.npL xs = true → PyData.depthAll (Dt.pyL xs) = Dt.depL xs
  | [], _ => rfl
  | x :: xs, h => by
    have h' : (x.np && Dt.npL xs) = true := h
    rw [Bool.and_eq_true] at h'
    show max x.py.depth (PyData.depthAll (Dt.pyL xs)) = max x.dep (Dt.depL xs)
    rw [dep_py x h'.1, depL_py xs h'.2]
end
mutual
theorem Din.dp {K : PySem.W.Frag} {F : Hp} : ∀ (x : Dt) (v : V), Din K F x v → x.np = true → Dp K F v x.py ∧ PyData.canLay0 x.py = true
  | .non, _, h, _ => by cases (show _ = V.non from h); exact ⟨.non, rfl⟩
  | .bl b, _, h, _ => by cases (show _ = V.bl b from h); exact ⟨.bl b, rfl⟩
  | .int b, _, h, _ => by cases (show _ = V.int b from h); exact ⟨.int b, rfl⟩
  | .str b, _, h, _ => by
    obtain ⟨e1, e2⟩ := (show _ = V.str b ∧ _ from h)
    subst e1
    exact ⟨.str b, e2⟩
  | .ref _, _, _, h => by cases (show false = true from h)
  | .tup xs, _, ⟨a, vs, h1, h2, h3⟩, n => by
    subst h1
    obtain ⟨r1, r2⟩ := DinL.dp xs vs h3 n
    exact ⟨.tup h2 r1, r2⟩
  | .lst xs, _, ⟨a, vs, h1, h2, h3⟩, n => by
    subst h1
    obtain ⟨r1, r2⟩ := DinL.dp xs vs h3 n
    exact ⟨.lst (SqL.of h2) r1, r2⟩
theorem DinL.dp {K : PySem.W.Frag} {F : Hp} : ∀ (xs : List Dt) (vs : List V), DinL K F xs vs → Dt.npL xs = true → DpAll K F vs (Dt.pyL xs) ∧ PyData.canLayAll0 (Dt.pyL xs) = true
  | [], _, h, _ => by cases (show _ = [] from h); exact ⟨.nil, rfl⟩
  | x :: xs, _, ⟨v, vt, h1, h2, h3⟩, n => by
    subst h1
    have h' : (x.np && Dt.npL xs) = true := n
    rw [Bool.and_eq_true] at h'
    obtain ⟨r1, r2⟩ := Din.dp x v h2 h'.1
    obtain ⟨r3, r4⟩ := DinL.dp xs vt h3 h'.2
    exact ⟨.cons r1 r3, by show (PyData.canLay0 x.py && PyData.canLayAll0 (Dt.pyL xs)) = true; rw [r2, r4]; rfl⟩
end
theorem Rel.dp {U : Wd} {K : PySem.W.Frag} {e : Ent U} {F : Hp} {ρ : Rho} {w : U.W} {σ : St} {H : Hp} (R : Rel U K e F ρ w σ H) {x : Dt} {v : V} (h : BorV K F ρ σ x v) (n : x.np = true) : Dp K H v x.py ∧ PyData.canLay0 x.py = true := by
  by_cases hl : ∃ xs, x = .lst xs
  · obtain ⟨xs, rfl⟩ := hl
    obtain ⟨l, vs, e1, h1, d⟩ := R.bor h
    subst e1
    obtain ⟨r1, r2⟩ := DinL.dp xs vs (DinL.mono R.bas.fh _ _ d) n
    exact ⟨.lst (SqL.of h1) r1, r2⟩
  · exact Din.dp x v (Din.mono R.bas.fh _ _ (h.din fun xs z => hl ⟨xs, z⟩)) n
/-- == of data -/
def rEqX (neg : Bool) (K : PySem.W.Frag) : R2 := fun x y H Q => ∃ d e, Dp K H x d ∧ Dp K H y e ∧ PyData.canLay0 d = true ∧ PyData.canLay0 e = true ∧ (d.depth ≤ 64 ∨ e.depth ≤ 64) ∧ Q (.bl (if neg then !PyData.eqv d e else PyData.eqv d e)) H
theorem op_eqX (hu : X.A.units + 64 < cLine) : OpR X (compareOp .Eq) (rEqX false X.K) := by
  intro pins s σ H x y v u Q I rx ry h
  obtain ⟨d, e, hd, he, sd, se, hm, q⟩ := h
  obtain ⟨as, r1⟩ := Dp.reads I d x v hd rx
  obtain ⟨bs, r2⟩ := Dp.reads I e y u he ry
  exact SeqAt.compareEq_reads r1 r2 sd se (by rcases hm with h | h <;> omega) ⟨.bl _, H, I, rfl, q⟩
theorem op_neX (hu : X.A.units + 64 < cLine) : OpR X (compareOp .NotEq) (rEqX true X.K) := by
  intro pins s σ H x y v u Q I rx ry h
  obtain ⟨d, e, hd, he, sd, se, hm, q⟩ := h
  obtain ⟨as, r1⟩ := Dp.reads I d x v hd rx
  obtain ⟨bs, r2⟩ := Dp.reads I e y u he ry
  exact SeqAt.compareNe_reads r1 r2 sd se (by rcases hm with h | h <;> omega) ⟨.bl _, H, I, rfl, q⟩
def gEq (x y : Dt) (Q : Dt → Prop) : Prop := x.np = true ∧ y.np = true ∧ (x.dep ≤ 64 ∨ y.dep ≤ 64) ∧ Q (.bl (eqd x y))
def gNe (x y : Dt) (Q : Dt → Prop) : Prop := x.np = true ∧ y.np = true ∧ (x.dep ≤ 64 ∨ y.dep ≤ 64) ∧ Q (.bl (!eqd x y))
theorem bin_eq {K : PySem.W.Frag} : Bin U K (rEqX false K) gEq := ⟨fun e F ρ w σ H x y v u Q Q' R hx hy q k => by
  obtain ⟨n1, n2, hm, q⟩ := q
  obtain ⟨r1, c1⟩ := R.dp hx n1
  obtain ⟨r2, c2⟩ := R.dp hy n2
  refine ⟨_, _, r1, r2, c1, c2, by rw [dep_py x n1, dep_py y n2]; exact hm, ?_⟩
  rw [if_neg Bool.false_ne_true, ← eqd_py]
  exact k _ _ F H q R (Same.refl _) rfl⟩
theorem bin_ne {K : PySem.W.Frag} : Bin U K (rEqX true K) gNe := ⟨fun e F ρ w σ H x y v u Q Q' R hx hy q k => by
  obtain ⟨n1, n2, hm, q⟩ := q
  obtain ⟨r1, c1⟩ := R.dp hx n1
  obtain ⟨r2, c2⟩ := R.dp hy n2
  refine ⟨_, _, r1, r2, c1, c2, by rw [dep_py x n1, dep_py y n2]; exact hm, ?_⟩
  rw [if_pos rfl, ← eqd_py]
  exact k _ _ F H q R (Same.refl _) rfl⟩

/-! ### in, not in: a text in a text, a flat thing in a list or tuple of flat things -/
def Dt.flat : Dt → Bool
  | .non => true
  | .bl _ => true
  | .int _ => true
  | .str _ => true
  | _ => false
def subS (i j : Str) : Bool := !(Builtin.Str.occurrences j i 0 j.length 1).isEmpty
def gIn (neg : Bool) (x y : Dt) (Q : Dt → Prop) : Prop := match y with
  | .str j => match x with
    | .str i => Q (.bl (if neg then !subS i j else subS i j))
    | _ => False
  | .tup ys => x.flat = true ∧ ys.all Dt.flat = true ∧ Q (.bl (if neg then !(ys.any fun z => eqd z x) else ys.any fun z => eqd z x))
  | .lst ys => x.flat = true ∧ ys.all Dt.flat = true ∧ Q (.bl (if neg then !(ys.any fun z => eqd z x) else ys.any fun z => eqd z x))
  | _ => False
def rInD' (K : PySem.W.Frag) : R2 := fun x y H Q => (∃ i j, x = .str i ∧ y = .str j ∧ Q (.bl (!(Builtin.Str.occurrences j i 0 j.length 1).isEmpty)) H) ∨ rIn K false x y H Q
def rNotInD' (K : PySem.W.Frag) : R2 := fun x y H Q => (∃ i j, x = .str i ∧ y = .str j ∧ Q (.bl (!(!(Builtin.Str.occurrences j i 0 j.length 1).isEmpty))) H) ∨ rIn K true x y H Q
theorem op_inD' : OpR X (compareOp .In) (rInD' X.K) := OpR.or op_in_str op_in_seq
theorem op_notInD' : OpR X (compareOp .NotIn) (rNotInD' X.K) := OpR.or op_notIn_str op_notIn_seq
theorem flat_v {K : PySem.W.Frag} {F : Hp} {x : Dt} {v : V} (h : Din K F x v) (f : x.flat = true) : flatV v = true := by
  cases x with
  | non => cases (show v = .non from h); rfl
  | bl b => cases (show v = .bl b from h); rfl
  | int b => cases (show v = .int b from h); rfl
  | str b => cases (show v = .str b ∧ _ from h).1; rfl
  | _ => cases (show false = true from f)
theorem flat_eq {K : PySem.W.Frag} {F : Hp} {x y : Dt} {v u : V} (h : Din K F x v) (f : x.flat = true) (h' : Din K F y u) (f' : y.flat = true) : eqV v u = eqd x y := by
  cases x with
  | non => cases (show v = .non from h); cases y with
    | non => cases (show u = .non from h'); rfl
    | bl b => cases (show u = .bl b from h'); rfl
    | int b => cases (show u = .int b from h'); rfl
    | str b => cases (show u = .str b ∧ _ from h').1; rfl
    | _ => cases (show false = true from f')
  | bl a => cases (show v = .bl a from h); cases y with
    | non => cases (show u = .non from h'); rfl
    | bl b => cases (show u = .bl b from h'); rfl
    | int b => cases (show u = .int b from h'); rfl
    | str b => cases (show u = .str b ∧ _ from h').1; rfl
    | _ => cases (show false = true from f')
  | int a => cases (show v = .int a from h); cases y with
    | non => cases (show u = .non from h'); rfl
    | bl b => cases (show u = .bl b from h'); rfl
    | int b => cases (show u = .int b from h'); rfl
    | str b => cases (show u = .str b ∧ _ from h').1; rfl
    | _ => cases (show false = true from f')
  | str a => cases (show v = .str a ∧ _ from h).1; cases y with
    | non => cases (show u = .non from h'); rfl
    | bl b => cases (show u = .bl b from h'); rfl
    | int b => cases (show u = .int b from h'); rfl
    | str b => cases (show u = .str b ∧ _ from h').1; rfl
    | _ => cases (show false = true from f')
  | _ => cases (show false = true from f)
theorem flat_in {K : PySem.W.Frag} {F : Hp} {x : Dt} {v : V} (h : Din K F x v) (f : x.flat = true) : ∀ {ys : List Dt} {vs : List V}, DinL K F ys vs → ys.all Dt.flat = true → vs.all flatV = true ∧ inV v vs = ys.any fun z => eqd z x
  | [], _, d, _ => by cases (show _ = [] from d); exact ⟨rfl, rfl⟩
  | y :: ys, _, ⟨u, vt, h1, h2, h3⟩, g => by
    subst h1
    rw [List.all_cons, Bool.and_eq_true] at g
    obtain ⟨r1, r2⟩ := flat_in h f h3 g.2
    refine ⟨by rw [List.all_cons, flat_v h2 g.1, r1]; rfl, ?_⟩
    show (eqV u v || inV v vt) = (eqd y x || ys.any fun z => eqd z x)
    rw [flat_eq h2 g.1 h f, r2]
theorem bin_in {K : PySem.W.Frag} : Bin U K (rInD' K) (gIn false) := ⟨fun e F ρ w σ H x y v u Q Q' R hx hy q k => by
  cases y with
  | str j => cases x with
    | str i =>
      obtain ⟨e1, o1⟩ := hx.str
      obtain ⟨e2, o2⟩ := hy.str
      rw [e1, e2]
      exact .inl ⟨_, _, rfl, rfl, k _ _ F H q R (Same.refl _) rfl⟩
    | _ => exact (show False from q).elim
  | tup ys =>
    obtain ⟨f1, f2, q⟩ := (show _ ∧ _ ∧ _ from q)
    obtain ⟨p, vs, e1, h1, d1⟩ := hy.tup
    have dx := hx.din fun xs z => by subst z; cases f1
    obtain ⟨r1, r2⟩ := flat_in dx f1 d1 f2
    subst e1
    refine .inr ⟨p, vs, rfl, .inr (SqT.mono R.bas.fh h1), flat_v dx f1, r1, ?_⟩
    rw [if_neg Bool.false_ne_true, r2]
    exact k _ _ F H q R (Same.refl _) rfl
  | lst ys =>
    obtain ⟨f1, f2, q⟩ := (show _ ∧ _ ∧ _ from q)
    obtain ⟨p, vs, e1, h1, d1⟩ := R.bor hy
    have dx := hx.din fun xs z => by subst z; cases f1
    obtain ⟨r1, r2⟩ := flat_in dx f1 d1 f2
    subst e1
    refine .inr ⟨p, vs, rfl, .inl (SqL.of h1), flat_v dx f1, r1, ?_⟩
    rw [if_neg Bool.false_ne_true, r2]
    exact k _ _ F H q R (Same.refl _) rfl
  | _ => exact (show False from q).elim⟩
theorem bin_notIn {K : PySem.W.Frag} : Bin U K (rNotInD' K) (gIn true) := ⟨fun e F ρ w σ H x y v u Q Q' R hx hy q k => by
  cases y with
  | str j => cases x with
    | str i =>
      obtain ⟨e1, o1⟩ := hx.str
      obtain ⟨e2, o2⟩ := hy.str
      rw [e1, e2]
      exact .inl ⟨_, _, rfl, rfl, k _ _ F H q R (Same.refl _) rfl⟩
    | _ => exact (show False from q).elim
  | tup ys =>
    obtain ⟨f1, f2, q⟩ := (show _ ∧ _ ∧ _ from q)
    obtain ⟨p, vs, e1, h1, d1⟩ := hy.tup
    have dx := hx.din fun xs z => by subst z; cases f1
    obtain ⟨r1, r2⟩ := flat_in dx f1 d1 f2
    subst e1
    refine .inr ⟨p, vs, rfl, .inr (SqT.mono R.bas.fh h1), flat_v dx f1, r1, ?_⟩
    rw [if_pos rfl, r2]
    exact k _ _ F H q R (Same.refl _) rfl
  | lst ys =>
    obtain ⟨f1, f2, q⟩ := (show _ ∧ _ ∧ _ from q)
    obtain ⟨p, vs, e1, h1, d1⟩ := R.bor hy
    have dx := hx.din fun xs z => by subst z; cases f1
    obtain ⟨r1, r2⟩ := flat_in dx f1 d1 f2
    subst e1
    refine .inr ⟨p, vs, rfl, .inl (SqL.of h1), flat_v dx f1, r1, ?_⟩
    rw [if_pos rfl, r2]
    exact k _ _ F H q R (Same.refl _) rfl
  | _ => exact (show False from q).elim⟩

/-! ### is None -/
def Dt.isN : Dt → Bool
  | .non => true
  | _ => false
def gIs (neg : Bool) (x y : Dt) (Q : Dt → Prop) : Prop := match y with
  | .non => Q (.bl (if neg then !x.isN else x.isN))
  | _ => False
theorem isn_v {U : Wd} {K : PySem.W.Frag} {e : Ent U} {F : Hp} {ρ : Rho} {w : U.W} {σ : St} {H : Hp} (R : Rel U K e F ρ w σ H) {x : Dt} {v : V} (h : BorV K F ρ σ x v) : decide (v = .non) = x.isN := by
  cases x with
  | non => rw [h.non]; rfl
  | bl b => rw [h.bl]; rfl
  | int b => rw [h.int]; rfl
  | str b => rw [h.str.1]; rfl
  | tup xs => obtain ⟨a, vs, e, _⟩ := h.tup; subst e; rfl
  | lst xs => obtain ⟨a, vs, e, _⟩ := R.bor h; subst e; rfl
  | ref a => have z : v = .ref a := h.din (fun _ z => nomatch z); subst z; rfl
theorem bin_isN {K : PySem.W.Frag} : Bin U K (fun x y H Q => y = .non ∧ Q (.bl (decide (x = .non))) H) (gIs false) := ⟨fun e F ρ w σ H x y v u Q Q' R hx hy q k => by
  cases y with
  | non =>
    refine ⟨hy.non, ?_⟩
    rw [isn_v R hx]
    exact k _ _ F H q R (Same.refl _) rfl
  | _ => exact (show False from q).elim⟩
theorem bin_notN {K : PySem.W.Frag} : Bin U K (fun x y H Q => y = .non ∧ Q (.bl (!decide (x = .non))) H) (gIs true) := ⟨fun e F ρ w σ H x y v u Q Q' R hx hy q k => by
  cases y with
  | non =>
    refine ⟨hy.non, ?_⟩
    rw [isn_v R hx]
    exact k _ _ F H q R (Same.refl _) rfl
  | _ => exact (show False from q).elim⟩

/-! ### a[i] -/
theorem DinL.atI {K : PySem.W.Frag} {F : Hp} {xs : List Dt} {vs : List V} (d : DinL K F xs vs) {i : Int} {x : Dt} (h : L2.atI xs i = some x) : ∃ v, L2.atI vs i = some v ∧ Din K F x v := by
  unfold L2.atI at h ⊢
  rw [d.length]
  cases e : ixN xs.length i with
  | none => rw [e] at h; cases h
  | some j =>
    rw [e] at h
    exact d.get (show xs[j]? = some x from h)
def strAt (s : Str) (i : Int) : Option Str := (atI s.cps.toList i).map fun c => ⟨#[c]⟩
def gIx (x y : Dt) (Q : Dt → Prop) : Prop := match x, y with
  | .tup xs, .int i => ∃ v, atI xs i = some v ∧ Q v
  | .lst xs, .int i => ∃ v, atI xs i = some v ∧ Q v
  | .str s, .int i => s.length ≤ sizeLine ∧ ∃ z, strAt s i = some z ∧ Q (.str z)
  | _, _ => False
theorem mem_atI {α : Type} {xs : List α} {i : Int} {x : α} (h : atI xs i = some x) : x ∈ xs := by
  unfold atI at h
  cases e : ixN xs.length i with
  | none => rw [e] at h; cases h
  | some j => rw [e] at h; exact List.mem_of_getElem? (show xs[j]? = some x from h)
theorem strOk_all {s : Str} (h : PyData.strOk s = true) : ∀ c ∈ s.cps.toList, c < 0x110000 := fun c hc => by
  unfold PyData.strOk at h
  rw [Array.all_eq_true_iff_forall_mem] at h
  exact of_decide_eq_true (h c (by simpa using hc))
theorem strOk_of {s : Str} (h : ∀ c ∈ s.cps.toList, c < 0x110000) : PyData.strOk s = true := by
  unfold PyData.strOk
  rw [Array.all_eq_true_iff_forall_mem]
  intro c hc
  exact decide_eq_true (h c (by simpa using hc))
theorem bin_ix {K : PySem.W.Frag} : Bin U K (rIx K) gIx := ⟨fun e F ρ w σ H x y v u Q Q' R hx hy q k => by
  cases y with
  | int i =>
    have e2 := hy.int
    subst e2
    cases x with
    | tup xs =>
      obtain ⟨z, hz, q⟩ := (show ∃ v, atI xs i = some v ∧ Q' v from q)
      obtain ⟨p, vs, e1, h1, d1⟩ := hx.tup
      subst e1
      obtain ⟨zv, g1, g2⟩ := d1.atI hz
      exact .inr (.inl ⟨p, vs, i, zv, rfl, rfl, SqT.mono R.bas.fh h1, g1, k _ _ F H q R (Same.refl _) g2⟩)
    | lst xs =>
      obtain ⟨z, hz, q⟩ := (show ∃ v, atI xs i = some v ∧ Q' v from q)
      obtain ⟨p, vs, e1, h1, d1⟩ := R.bor hx
      subst e1
      obtain ⟨zv, g1, g2⟩ := d1.atI hz
      exact .inl ⟨p, vs, i, zv, rfl, rfl, SqL.of h1, g1, k _ _ F H q R (Same.refl _) g2⟩
    | str s =>
      obtain ⟨hl, z, hz, q⟩ := (show s.length ≤ sizeLine ∧ ∃ z, strAt s i = some z ∧ Q' (.str z) from q)
      obtain ⟨e1, ok⟩ := hx.str
      subst e1
      unfold strAt at hz
      cases hc : atI s.cps.toList i with
      | none => rw [hc] at hz; cases hz
      | some c =>
        rw [hc] at hz
        cases hz
        refine .inr (.inr ⟨s, i, c, rfl, rfl, hl, hc, k _ _ F H q R (Same.refl _) ⟨rfl, strOk_of fun d hd => ?_⟩⟩)
        have : d = c := by simpa using hd
        subst this
        exact strOk_all ok _ (mem_atI hc)
    | _ => exact (show False from q).elim
  | _ => cases x <;> exact (show False from q).elim⟩
theorem de_ix (ha : DB X U a ta) (hb : DB X U b tb) (hs : PlainIx b := by exact fun _ _ => rfl) : DE X U (.Subscript a b pos) (dOp gIx ta tb) :=
  ⟨fun e => (pe_ix ix_seq (ha.run e) (hb.run e) hs).weak fun σ H Q h => up_op bin_ix e h⟩
end
end DL

set_option Elab.async false
set_option linter.all false
set_option maxRecDepth 100000
set_option maxHeartbeats 4000000
namespace DL
open PySem L2
section
variable {X : Cx} {U : Wd} {a b c ex : Expr} {rest : List Expr} {ta tb tc : TD U} {ka kb : TDT U} {pos : Pos}

/-! ### and, or, not, if -/
def dAnd (t u : TDT U) : TDT U := fun ρ w Q => t ρ w fun k w1 => if k = true then u ρ w1 Q else Q false w1
def dOr (t u : TDT U) : TDT U := fun ρ w Q => t ρ w fun k w1 => if k = true then Q true w1 else u ρ w1 Q
def dNot (t : TDT U) : TDT U := fun ρ w Q => t ρ w fun k w1 => Q (!k) w1
theorem dw_and1 (ha : DT X U a ka) : DW X U (.BoolOp .And [a] pos) ka := ⟨fun e => pw_and1 (ha.run e)⟩
theorem dw_or1 (ha : DT X U a ka) : DW X U (.BoolOp .Or [a] pos) ka := ⟨fun e => pw_or1 (ha.run e)⟩
theorem dw_and (ha : DT X U a ka) (hb : DW X U (.BoolOp .And (b :: rest) pos) kb) : DW X U (.BoolOp .And (a :: b :: rest) pos) (dAnd ka kb) := ⟨fun e => (pw_and (ha.run e) (hb.run e)).weak fun σ H Q ⟨F, ρ, w, Q', R, q, k⟩ =>
  ⟨F, ρ, w, _, R, q, fun kk F1 w1 H1 q1 R1 s1 => by
    cases kk with
    | true => exact iteT ⟨F1, ρ, w1, Q', R1, q1, fun k2 F2 w2 H2 q2 R2 s2 => k k2 F2 w2 H2 q2 R2 (s1.trans s2)⟩
    | false => exact iteF (k false F1 w1 H1 q1 R1 s1)⟩⟩
theorem dw_or (ha : DT X U a ka) (hb : DW X U (.BoolOp .Or (b :: rest) pos) kb) : DW X U (.BoolOp .Or (a :: b :: rest) pos) (dOr ka kb) := ⟨fun e => (pw_or (ha.run e) (hb.run e)).weak fun σ H Q ⟨F, ρ, w, Q', R, q, k⟩ =>
  ⟨F, ρ, w, _, R, q, fun kk F1 w1 H1 q1 R1 s1 => by
    cases kk with
    | false => exact iteF ⟨F1, ρ, w1, Q', R1, q1, fun k2 F2 w2 H2 q2 R2 s2 => k k2 F2 w2 H2 q2 R2 (s1.trans s2)⟩
    | true => exact iteT (k true F1 w1 H1 q1 R1 s1)⟩⟩
theorem DW.dt {k : TDT U} (h : DW X U ex k) : DT X U ex k := ⟨fun e => (h.run e).pt⟩
theorem dt_not (ha : DT X U a ka) : DT X U (.UnaryOp .Not a pos) (dNot ka) := ⟨fun e => (pt_not (ha.run e)).weak fun σ H Q ⟨F, ρ, w, Q', R, q, k⟩ =>
  ⟨F, ρ, w, _, R, q, fun kk F1 w1 H1 q1 R1 s1 => k (!kk) F1 w1 H1 q1 R1 s1⟩⟩
/-- .. as values -/
def dAndV (ta tb : TD U) : TD U := fun ρ w Q => ta ρ w fun x w1 => match x with
  | .bl k => if k = true then tb ρ w1 Q else Q (.bl false) w1
  | _ => False
def dOrV (ta tb : TD U) : TD U := fun ρ w Q => ta ρ w fun x w1 => match x with
  | .bl k => if k = true then Q (.bl true) w1 else tb ρ w1 Q
  | _ => False
def dNotV (ta : TD U) : TD U := fun ρ w Q => ta ρ w fun x w1 => match x with
  | .bl k => Q (.bl (!k)) w1
  | _ => False
theorem de_one {op} (h : DE X U a ta) : DE X U (.BoolOp op [a] pos) ta := ⟨fun e => pe_one (h.run e)⟩
theorem de_and (ha : DE X U a ta) (hb : DE X U (.BoolOp .And (b :: rest) pos) tb) : DE X U (.BoolOp .And (a :: b :: rest) pos) (dAndV ta tb) := ⟨fun e => (pe_and (ha.run e) (hb.run e)).weak fun σ H Q ⟨F, ρ, w, Q', R, q, k⟩ =>
  ⟨F, ρ, w, _, R, q, fun x v F1 w1 H1 q1 R1 s1 d1 => by
    cases x with
    | bl kk =>
      refine ⟨kk, d1, ?_⟩
      cases kk with
      | true => exact iteT ⟨F1, ρ, w1, Q', R1, q1, fun x2 v2 F2 w2 H2 q2 R2 s2 d2 => k x2 v2 F2 w2 H2 q2 R2 (s1.trans s2) d2⟩
      | false => exact iteF (k (.bl false) (.bl false) F1 w1 H1 q1 R1 s1 rfl)
    | _ => exact q1.elim⟩⟩
theorem de_or (ha : DE X U a ta) (hb : DE X U (.BoolOp .Or (b :: rest) pos) tb) : DE X U (.BoolOp .Or (a :: b :: rest) pos) (dOrV ta tb) := ⟨fun e => (pe_or (ha.run e) (hb.run e)).weak fun σ H Q ⟨F, ρ, w, Q', R, q, k⟩ =>
  ⟨F, ρ, w, _, R, q, fun x v F1 w1 H1 q1 R1 s1 d1 => by
    cases x with
    | bl kk =>
      refine ⟨kk, d1, ?_⟩
      cases kk with
      | false => exact iteF ⟨F1, ρ, w1, Q', R1, q1, fun x2 v2 F2 w2 H2 q2 R2 s2 d2 => k x2 v2 F2 w2 H2 q2 R2 (s1.trans s2) d2⟩
      | true => exact iteT (k (.bl true) (.bl true) F1 w1 H1 q1 R1 s1 rfl)
    | _ => exact q1.elim⟩⟩
theorem de_not (ha : DE X U a ta) : DE X U (.UnaryOp .Not a pos) (dNotV ta) := ⟨fun e => (pe_not (ha.run e)).weak fun σ H Q ⟨F, ρ, w, Q', R, q, k⟩ =>
  ⟨F, ρ, w, _, R, q, fun x v F1 w1 H1 q1 R1 s1 d1 => by
    cases x with
    | bl kk => exact ⟨kk, d1, k (.bl (!kk)) (.bl (!kk)) F1 w1 H1 q1 R1 s1 rfl⟩
    | _ => exact q1.elim⟩⟩
def dIf (t : TDT U) (ta tb : TD U) : TD U := fun ρ w Q => t ρ w fun k w1 => if k = true then ta ρ w1 Q else tb ρ w1 Q
theorem de_ifExp (hc : DT X U c ka) (ha : DE X U a ta) (hb : DE X U b tb) : DE X U (.IfExp c a b pos) (dIf ka ta tb) := ⟨fun e => (pe_ifExp (hc.run e) (ha.run e) (hb.run e)).weak fun σ H Q ⟨F, ρ, w, Q', R, q, k⟩ =>
  ⟨F, ρ, w, _, R, q, fun kk F1 w1 H1 q1 R1 s1 => by
    cases kk with
    | true => exact iteT ⟨F1, ρ, w1, Q', R1, q1, fun x2 v2 F2 w2 H2 q2 R2 s2 d2 => k x2 v2 F2 w2 H2 q2 R2 (s1.trans s2) d2⟩
    | false => exact iteF ⟨F1, ρ, w1, Q', R1, q1, fun x2 v2 F2 w2 H2 q2 R2 s2 d2 => k x2 v2 F2 w2 H2 q2 R2 (s1.trans s2) d2⟩⟩⟩

/-! ### arguments, displays -/
def dNil : TDL U := fun _ w Q => Q [] w
def dCons (ta : TD U) (tr : TDL U) : TDL U := fun ρ w Q => ta ρ w fun x w1 => tr ρ w1 fun xs w2 => Q (x :: xs) w2
theorem da_nil : DA X U [] dNil := ⟨fun e => pa_nil.weak fun σ H Q ⟨F, ρ, w, Q', R, q, k⟩ => k [] [] F w H q R (Same.refl _) rfl⟩
theorem da_cons {es : List Expr} {t : TDL U} (ha : DE X U ex ta) (hr : DA X U es t) (hs : starEach (ex :: es) X.env = (false, eval ex X.env) :: starEach es X.env := by rfl) : DA X U (ex :: es) (dCons ta t) := ⟨fun e => (pa_cons (ha.run e) (hr.run e) hs).weak fun σ H Q ⟨F, ρ, w, Q', R, q, k⟩ =>
  ⟨F, ρ, w, _, R, q, fun x v F1 w1 H1 q1 R1 s1 d1 => ⟨F1, ρ, w1, _, R1, q1, fun xs vs F2 w2 H2 q2 R2 s2 d2 => k (x :: xs) (v :: vs) F2 w2 H2 q2 R2 (s1.trans s2) ⟨v, vs, rfl, Din.mono s2 _ _ d1, d2⟩⟩⟩⟩
def dTup (t : TDL U) : TD U := fun ρ w Q => t ρ w fun xs w1 => xs.length ≤ sizeLine ∧ Q (.tup xs) w1
theorem de_tup {es : List Expr} {t : TDL U} {x1} (h : DA X U es t) : DE X U (.Tuple es x1 pos) (dTup t) := ⟨fun e => (pe_tup (h.run e)).weak fun σ H Q ⟨F, ρ, w, Q', R, q, k⟩ =>
  ⟨F, ρ, w, _, R, q, fun xs vs F1 w1 H1 ⟨z, q1⟩ R1 s1 d1 => ⟨by rw [d1.length]; exact z, fun p hp => by
    obtain ⟨R2, s2⟩ := R1.laid hp (.tup vs)
    exact k _ _ _ w1 _ q1 R2 (s1.trans s2) ⟨p, vs, rfl, .inl (.inl upd_same), DinL.mono s2 _ _ d1⟩⟩⟩⟩
def dLst (t : TDL U) : TDL U := fun ρ w Q => t ρ w fun xs w1 => xs.length ≤ sizeLine ∧ Q xs w1
theorem df_lst {es : List Expr} {t : TDL U} (h : DA X U es t) : DF X U (.List es pos) (dLst t) := ⟨fun e => (pe_lst (h.run e)).weak fun σ H Q ⟨F, ρ, w, Q', R, q, k⟩ =>
  ⟨F, ρ, w, _, R, q, fun xs vs F1 w1 H1 ⟨z, q1⟩ R1 s1 d1 => ⟨by rw [d1.length]; exact z, fun p hp => by
    obtain ⟨R2, f2⟩ := R1.mine hp vs
    exact k xs p vs F1 w1 _ q1 R2 s1 f2 d1⟩⟩⟩

/-! ### slices -/
abbrev TDO (U : Wd) := Rho → U.W → (Option Int → U.W → Prop) → Prop
def upO (U : Wd) (K : PySem.W.Frag) (e : Ent U) (t : TDO U) : TO := fun σ H Q => ∃ F ρ w Q', Rel U K e F ρ w σ H ∧ t ρ w Q' ∧ ∀ o F' w' H', Q' o w' → Rel U K e F' ρ w' σ H' → Same F F' → Q o H'
structure DO (X : Cx) (U : Wd) (ex : Option Expr) (t : TDO U) : Prop where
  run : ∀ e, PO X ex (upO U X.K e t)
theorem _root_.L2.PO.weak {oe : Option Expr} {t t' : TO} (h : PO X oe t) (i : ∀ σ H Q, t' σ H Q → t σ H Q) : PO X oe t' := ⟨fun pins s σ H Q I q => h.run pins s σ H Q I (i σ H Q q)⟩
def dNone : TDO U := fun _ w Q => Q none w
def dSome (t : TD U) : TDO U := fun ρ w Q => t ρ w fun x w1 => match x with
  | .int i => Q (some i) w1
  | _ => False
theorem do_none : DO X U none dNone := ⟨fun e => po_none.weak fun σ H Q ⟨F, ρ, w, Q', R, q, k⟩ => k none F w H q R (Same.refl _)⟩
theorem do_some (h : DB X U ex ta) : DO X U (some ex) (dSome ta) := ⟨fun e => (po_some (h.run e)).weak fun σ H Q ⟨F, ρ, w, Q', R, q, k⟩ => ⟨F, ρ, w, _, R, q, fun x v F1 w1 H1 q1 R1 s1 d1 => by
  cases x with
  | int i => exact ⟨i, d1.int, k _ F1 w1 H1 q1 R1 s1⟩
  | _ => exact q1.elim⟩⟩
def cutD (xs : List Dt) (lo hi : Option Int) : List Dt := (xs.drop (HT.sIx xs.length 0 lo)).take (HT.sIx xs.length xs.length hi - HT.sIx xs.length 0 lo)
theorem DinL.cut {K : PySem.W.Frag} {F : Hp} {xs : List Dt} {vs : List V} (d : DinL K F xs vs) (lo hi : Option Int) : DinL K F (cutD xs lo hi) (cutV vs lo hi) := by
  unfold cutD cutV
  rw [d.length]
  exact (d.drop _).take _
theorem cutS_toList (z : Str) (lo hi : Option Int) : (cutS z lo hi).cps.toList = (z.cps.toList.drop (HT.sIx z.length 0 lo)).take (HT.sIx z.length z.length hi - HT.sIx z.length 0 lo) := by
  simp [cutS]
theorem strOk_cut {z : Str} (lo hi : Option Int) (h : PyData.strOk z = true) : PyData.strOk (cutS z lo hi) = true := by
  refine strOk_of fun c hc => ?_
  rw [cutS_toList] at hc
  exact strOk_all h c (List.mem_of_mem_drop (List.mem_of_mem_take hc))
/-- t[lo:hi] of a tuple or a text -/
def dSl (te : TD U) (tl th : TDO U) : TD U := fun ρ w Q => te ρ w fun x w1 => tl ρ w1 fun l w2 => th ρ w2 fun u w3 => match x with
  | .tup xs => Q (.tup (cutD xs l u)) w3
  | .str s => s.length ≤ sizeLine ∧ Q (.str (cutS s l u)) w3
  | .lst xs => Q (.lst (cutD xs l u)) w3
  | _ => False
theorem de_slice {lo hi : Option Expr} {tl th : TDO U} {p2 : Pos} (he : DB X U ex ta) (hl : DO X U lo tl) (hu : DO X U hi th) : DE X U (.Subscript ex (.Slice lo hi none p2) pos) (dSl ta tl th) :=
  ⟨fun e => (pe_slice (SlR.or (SlR.or sl_tupA sl_str) sl_list) (he.run e) (hl.run e) (hu.run e)).weak fun σ H Q ⟨F, ρ, w, Q', R, q, k⟩ =>
    ⟨F, ρ, w, _, R, q, fun x v F1 w1 H1 q1 R1 s1 b1 => ⟨F1, ρ, w1, _, R1, q1, fun l F2 w2 H2 q2 R2 s2 => ⟨F2, ρ, w2, _, R2, q2, fun u F3 w3 H3 q3 R3 s3 => by
      have b3 := (b1.mono s2).mono s3
      have ss := s1.trans (s2.trans s3)
      cases x with
      | tup xs =>
        obtain ⟨p, vs, e1, h1, d1⟩ := b3.tup
        subst e1
        refine .inl (.inl ⟨p, vs, rfl, SqT.mono R3.bas.fh h1, fun z => ?_, fun _ r hr => ?_⟩)
        · have ew : cutD xs l u = xs := by
            unfold cutD
            rw [← d1.length, z.1, z.2, List.drop_zero, Nat.sub_zero, List.take_of_length_le (by rw [d1.length]; exact Nat.le_refl _)]
          refine k _ _ F3 w3 H3 q3 R3 ss ⟨p, vs, rfl, h1, ?_⟩
          rw [ew]; exact d1
        · obtain ⟨R4, s4⟩ := R3.laid hr (.tup (cutV vs l u))
          exact k _ _ _ w3 _ q3 R4 (ss.trans s4) ⟨r, _, rfl, .inl (.inl upd_same), DinL.mono s4 _ _ (d1.cut l u)⟩
      | str s =>
        obtain ⟨e1, ok⟩ := b3.str
        subst e1
        exact .inl (.inr ⟨s, rfl, q3.1, k _ _ F3 w3 H3 q3.2 R3 ss ⟨rfl, strOk_cut l u ok⟩⟩)
      | lst xs =>
        obtain ⟨p, vs, e1, h1, d1⟩ := R3.bor b3
        subst e1
        refine .inr ⟨p, vs, rfl, SqL.of h1, fun r hr => ?_⟩
        obtain ⟨R4, s4⟩ := R3.laid hr (.lst (cutV vs l u))
        exact k _ _ _ w3 _ q3 R4 (ss.trans s4) ⟨r, _, rfl, upd_same, DinL.mono s4 _ _ (d1.cut l u)⟩
      | _ => exact (show False from q3).elim⟩⟩⟩⟩
/-- xs[lo:hi] of a list: a new one of our own -/
def dSlL (te : TD U) (tl th : TDO U) : TDL U := fun ρ w Q => te ρ w fun x w1 => tl ρ w1 fun l w2 => th ρ w2 fun u w3 => match x with
  | .lst xs => Q (cutD xs l u) w3
  | _ => False
theorem df_slice {lo hi : Option Expr} {tl th : TDO U} {p2 : Pos} (he : DB X U ex ta) (hl : DO X U lo tl) (hu : DO X U hi th) : DF X U (.Subscript ex (.Slice lo hi none p2) pos) (dSlL ta tl th) :=
  ⟨fun e => (pe_slice sl_list (he.run e) (hl.run e) (hu.run e)).weak fun σ H Q ⟨F, ρ, w, Q', R, q, k⟩ =>
    ⟨F, ρ, w, _, R, q, fun x v F1 w1 H1 q1 R1 s1 b1 => ⟨F1, ρ, w1, _, R1, q1, fun l F2 w2 H2 q2 R2 s2 => ⟨F2, ρ, w2, _, R2, q2, fun u F3 w3 H3 q3 R3 s3 => by
      cases x with
      | lst xs =>
        obtain ⟨p, vs, e1, h1, d1⟩ := R3.bor ((b1.mono s2).mono s3)
        subst e1
        refine ⟨p, vs, rfl, SqL.of h1, fun r hr => ?_⟩
        obtain ⟨R4, f4⟩ := R3.mine hr (cutV vs l u)
        exact k _ r _ F3 w3 _ q3 R4 (s1.trans (s2.trans s3)) f4 (d1.cut l u)
      | _ => exact (show False from q3).elim⟩⟩⟩⟩
/-- xs[::-1] of a list -/
def dRevL (te : TD U) : TDL U := fun ρ w Q => te ρ w fun x w1 => match x with
  | .lst xs => Q xs.reverse w1
  | _ => False
theorem DinL.len_le {K : PySem.W.Frag} {F : Hp} {xs : List Dt} {vs : List V} (d : DinL K F xs vs) : vs.length = xs.length := d.length
theorem df_rev {k : Nat} {p1 p2 p3 : Pos} (he : DB X U ex ta) : DF X U (.Subscript ex (.Slice none none (some (.UnaryOp .USub (.Constant (.int 1) k p1) p2)) p3) pos) (dRevL ta) :=
  ⟨fun e => (pe_revL (he.run e)).weak fun σ H Q ⟨F, ρ, w, Q', R, q, k⟩ => ⟨F, ρ, w, _, R, q, fun x v F1 w1 H1 q1 R1 s1 b1 => by
    cases x with
    | lst xs =>
      obtain ⟨p, vs, e1, h1, d1⟩ := R1.bor b1
      subst e1
      refine ⟨p, vs, rfl, SqL.of h1, fun r hr => ?_⟩
      obtain ⟨R4, f4⟩ := R1.mine hr vs.reverse
      exact k _ r _ F1 w1 _ q1 R4 s1 f4 d1.rev
    | _ => exact (show False from q1).elim⟩⟩

/-! ### xs + ys, xs * n of lists -/
def gCat (x y : Dt) (Q : List Dt → Prop) : Prop := match x, y with
  | .lst xs, .lst ys => xs.length + ys.length ≤ sizeLine ∧ Q (xs ++ ys)
  | _, _ => False
def dCat (ta tb : TD U) : TDL U := fun ρ w Q => ta ρ w fun x w1 => tb ρ w1 fun y w2 => gCat x y fun z => Q z w2
theorem df_cat (ha : DB X U a ta) (hb : DB X U b tb) : DF X U (.BinOp a .Add b pos) (dCat ta tb) :=
  ⟨fun e => (pe_op op_cat (ha.run e) (hb.run e)).weak fun σ H Q ⟨F, ρ, w, Q', R, q, k⟩ => ⟨F, ρ, w, _, R, q, fun x v F1 w1 H1 q1 R1 s1 b1 => ⟨F1, ρ, w1, _, R1, q1, fun y u F2 w2 H2 q2 R2 s2 b2 => by
    unfold gCat at q2
    split at q2
    · obtain ⟨p, vs, e1, h1, d1⟩ := R2.bor (b1.mono s2)
      obtain ⟨p2, us, e2, h2, d2⟩ := R2.bor b2
      subst e1 e2
      refine ⟨p, p2, vs, us, rfl, rfl, h1, h2, by rw [d1.length, d2.length]; exact q2.1, fun r hr => ?_⟩
      obtain ⟨R3, f3⟩ := R2.mine hr (vs ++ us)
      exact k _ r _ F2 w2 _ q2.2 R3 (s1.trans s2) f3 (d1.append d2)
    · exact q2.elim⟩⟩⟩
theorem DinL.rep {K : PySem.W.Frag} {F : Hp} {xs : List Dt} {vs : List V} (d : DinL K F xs vs) : ∀ n : Nat, DinL K F (List.replicate n xs).flatten (List.replicate n vs).flatten
  | 0 => rfl
  | n + 1 => by
    rw [List.replicate_succ, List.replicate_succ, List.flatten_cons, List.flatten_cons]
    exact d.append (DinL.rep d n)
end
end DL

set_option Elab.async false
set_option linter.all false
set_option maxRecDepth 100000
set_option maxHeartbeats 4000000
namespace DL
open PySem L2
section
variable {X : Cx} {U : Wd} {a b c ex : Expr} {rest : List Expr} {ta tb tc : TD U} {ka kb : TDT U} {pos p : Pos}

/-! ### a built-in of one argument that is looked at -/
structure Un1 (U : Wd) (K : PySem.W.Frag) (r : List V → Hp → VK → Prop) (g : Dt → (Dt → Prop) → Prop) : Prop where
  run : ∀ (e : Ent U) (F : Hp) (ρ : Rho) (w : U.W) (σ : St) (H : Hp) (x : Dt) (v : V) (Q : VK) (Q' : Dt → Prop), Rel U K e F ρ w σ H → BorV K F ρ σ x v → g x Q' →
    (∀ z v' F' H', Q' z → Rel U K e F' ρ w σ H' → Same F F' → Din K F' z v' → Q v' H') → r [v] H Q
theorem up_un {r : List V → Hp → VK → Prop} {g : Dt → (Dt → Prop) → Prop} (B : Un1 U X.K r g) (e : Ent U) {σ : St} {H : Hp} {Q : VK} (h : up U X.K e (dUn g ta) σ H Q) : tCB r (tCons (upB U X.K e ta) tNil) σ H Q := by
  obtain ⟨F, ρ, w, Q', R, q, k⟩ := h
  exact ⟨F, ρ, w, _, R, q, fun x v F1 w1 H1 q1 R1 s1 b1 => B.run e F1 ρ w1 σ H1 x v Q _ R1 b1 q1 fun z v' F' H' q' R' s' d' => k z v' F' w1 H' q' R' (s1.trans s') d'⟩
theorem de_callB {id : String} {x : Str} {r : List V → Hp → VK → Prop} {g : Dt → (Dt → Prop) → Prop} (hc : CallR X (.builtin id) r) (B : Un1 U X.K r g) (hg : Gl X x) (hm : X.mg x = none) (hv : bootBuiltins x = some (.builtin id)) (ha : DB X U a ta)
    (hn : x ≠ "__name__" := by decide) (hdb : (x == ("__debug__" : Str)) = false := by decide) (hs : starEach [a] X.env = [(false, eval a X.env)] := by rfl) (hpl : (backTo pos (starEach [] X.env)).any (·.1) = false := by rfl) :
    DE X U (.Call (.Name x p) [a] [] pos) (dUn g ta) := ⟨fun e => (pe_callB hc hg hm hv (pa_cons (ha.run e) pa_nil hs) hn hdb hs hpl).weak fun σ H Q h => up_un B e h⟩
theorem de_callTy {T : String} {x : Str} {r : List V → Hp → VK → Prop} {g : Dt → (Dt → Prop) → Prop} (hc : CallR X (.type T) r) (B : Un1 U X.K r g) (hg : Gl X x) (hm : X.mg x = none) (hv : bootBuiltins x = some (.type T)) (ha : DB X U a ta)
    (hn : x ≠ "__name__" := by decide) (hdb : (x == ("__debug__" : Str)) = false := by decide) (hs : starEach [a] X.env = [(false, eval a X.env)] := by rfl) (hpl : (backTo pos (starEach [] X.env)).any (·.1) = false := by rfl) :
    DE X U (.Call (.Name x p) [a] [] pos) (dUn g ta) := ⟨fun e => (pe_callTy hc hg hm hv (pa_cons (ha.run e) pa_nil hs) hn hdb hs hpl).weak fun σ H Q h => up_un B e h⟩
/-- the same where a new list comes -/
structure Un1L (U : Wd) (K : PySem.W.Frag) (r : List V → Hp → VK → Prop) (g : Dt → (List Dt → Prop) → Prop) : Prop where
  run : ∀ (e : Ent U) (F : Hp) (ρ : Rho) (w : U.W) (σ : St) (H : Hp) (x : Dt) (v : V) (Q : VK) (Q' : List Dt → Prop), Rel U K e F ρ w σ H → BorV K F ρ σ x v → g x Q' →
    (∀ zs l vs F' H', Q' zs → Rel U K e F' ρ w σ H' → Same F F' → Fresh U e F' ρ w σ H' l vs → DinL K F' zs vs → Q (.ref l) H') → r [v] H Q
def dUnL (g : Dt → (List Dt → Prop) → Prop) (ta : TD U) : TDL U := fun ρ w Q => ta ρ w fun x w1 => g x fun z => Q z w1
theorem up_unL {r : List V → Hp → VK → Prop} {g : Dt → (List Dt → Prop) → Prop} (B : Un1L U X.K r g) (e : Ent U) {σ : St} {H : Hp} {Q : VK} (h : upL U X.K e (dUnL g ta) σ H Q) : tCB r (tCons (upB U X.K e ta) tNil) σ H Q := by
  obtain ⟨F, ρ, w, Q', R, q, k⟩ := h
  exact ⟨F, ρ, w, _, R, q, fun x v F1 w1 H1 q1 R1 s1 b1 => B.run e F1 ρ w1 σ H1 x v Q _ R1 b1 q1 fun z l vs F' H' q' R' s' f' d' => k z l vs F' w1 H' q' R' (s1.trans s') f' d'⟩
theorem df_callB {id : String} {x : Str} {r : List V → Hp → VK → Prop} {g : Dt → (List Dt → Prop) → Prop} (hc : CallR X (.builtin id) r) (B : Un1L U X.K r g) (hg : Gl X x) (hm : X.mg x = none) (hv : bootBuiltins x = some (.builtin id)) (ha : DB X U a ta)
    (hn : x ≠ "__name__" := by decide) (hdb : (x == ("__debug__" : Str)) = false := by decide) (hs : starEach [a] X.env = [(false, eval a X.env)] := by rfl) (hpl : (backTo pos (starEach [] X.env)).any (·.1) = false := by rfl) :
    DF X U (.Call (.Name x p) [a] [] pos) (dUnL g ta) := ⟨fun e => (pe_callB hc hg hm hv (pa_cons (ha.run e) pa_nil hs) hn hdb hs hpl).weak fun σ H Q h => up_unL B e h⟩
theorem df_callTy {T : String} {x : Str} {r : List V → Hp → VK → Prop} {g : Dt → (List Dt → Prop) → Prop} (hc : CallR X (.type T) r) (B : Un1L U X.K r g) (hg : Gl X x) (hm : X.mg x = none) (hv : bootBuiltins x = some (.type T)) (ha : DB X U a ta)
    (hn : x ≠ "__name__" := by decide) (hdb : (x == ("__debug__" : Str)) = false := by decide) (hs : starEach [a] X.env = [(false, eval a X.env)] := by rfl) (hpl : (backTo pos (starEach [] X.env)).any (·.1) = false := by rfl) :
    DF X U (.Call (.Name x p) [a] [] pos) (dUnL g ta) := ⟨fun e => (pe_callTy hc hg hm hv (pa_cons (ha.run e) pa_nil hs) hn hdb hs hpl).weak fun σ H Q h => up_unL B e h⟩

/-- len -/
def gLen (x : Dt) (Q : Dt → Prop) : Prop := match x with
  | .tup xs => Q (.int xs.length)
  | .lst xs => Q (.int xs.length)
  | .str s => s.length ≤ sizeLine ∧ Q (.int s.length)
  | _ => False
def rLen (K : PySem.W.Frag) : List V → Hp → VK → Prop := fun xs H Q => (∃ p ys, xs = [.ref p] ∧ (SqL K H p ys ∨ SqT K H p ys) ∧ Q (.int ys.length) H) ∨ ∃ z, xs = [.str z] ∧ z.length ≤ sizeLine ∧ Q (.int z.length) H
theorem call_lenD : CallR X (.builtin "len") (rLen X.K) := CallR.or call_len_seq call_len_str
theorem un_len {K : PySem.W.Frag} : Un1 U K (rLen K) gLen := ⟨fun e F ρ w σ H x v Q Q' R hx q k => by
  cases x with
  | tup xs =>
    obtain ⟨p, vs, e1, h1, d1⟩ := hx.tup
    subst e1
    exact .inl ⟨p, vs, rfl, .inr (SqT.mono R.bas.fh h1), by rw [d1.length]; exact k _ _ F H q R (Same.refl _) rfl⟩
  | lst xs =>
    obtain ⟨p, vs, e1, h1, d1⟩ := R.bor hx
    subst e1
    exact .inl ⟨p, vs, rfl, .inl (SqL.of h1), by rw [d1.length]; exact k _ _ F H q R (Same.refl _) rfl⟩
  | str s =>
    obtain ⟨e1, o1⟩ := hx.str
    subst e1
    exact .inr ⟨s, rfl, q.1, k _ _ F H q.2 R (Same.refl _) rfl⟩
  | _ => exact (show False from q).elim⟩
theorem de_len {p2 pos : Pos} (hg : Gl X "len") (hm : X.mg "len" = none) (ha : DB X U a ta) (hs : starEach [a] X.env = [(false, eval a X.env)] := by rfl) : DE X U (.Call (.Name "len" p2) [a] [] pos) (dUn gLen ta) :=
  de_callB call_lenD un_len hg hm PySem.boot_len ha (hs := hs)
/-- abs -/
theorem un_abs {K : PySem.W.Frag} : Un1 U K (fun xs H Q => ∃ i, xs = [.int i] ∧ Q (.int (if i < 0 then -i else i)) H) (gU fun i => .int (if i < 0 then -i else i)) := ⟨fun e F ρ w σ H x v Q Q' R hx q k => by
  cases x with
  | int i => exact ⟨i, by rw [hx.int], k _ _ F H q R (Same.refl _) rfl⟩
  | _ => exact (show False from q).elim⟩
theorem de_abs {p2 pos : Pos} (hg : Gl X "abs") (hm : X.mg "abs" = none) (ha : DB X U a ta) (hs : starEach [a] X.env = [(false, eval a X.env)] := by rfl) : DE X U (.Call (.Name "abs" p2) [a] [] pos) (dUn (gU fun i => .int (if i < 0 then -i else i)) ta) :=
  de_callB call_abs un_abs hg hm (by decide +kernel) ha (hs := hs)
/-- all, any, sum -/
def allB : List Dt → Option (List Bool)
  | [] => some []
  | .bl b :: r => (allB r).map (b :: ·)
  | _ :: _ => none
theorem allB_map : ∀ bs : List Bool, allB (bs.map Dt.bl) = some bs
  | [] => rfl
  | b :: r => by rw [List.map_cons]; show (allB (r.map Dt.bl)).map (b :: ·) = _; rw [allB_map r]; rfl
theorem allB_eq : ∀ {xs : List Dt} {bs : List Bool}, allB xs = some bs → xs = bs.map Dt.bl
  | [], _, h => by cases h; rfl
  | .bl b :: r, bs, h => by
    cases e : allB r with
    | none => simp [allB, e] at h
    | some cs =>
      simp [allB, e] at h
      subst h
      rw [allB_eq e]; rfl
  | .non :: _, _, h => nomatch h
  | .int _ :: _, _, h => nomatch h
  | .str _ :: _, _, h => nomatch h
  | .tup _ :: _, _, h => nomatch h
  | .lst _ :: _, _, h => nomatch h
  | .ref _ :: _, _, h => nomatch h
def gAll (x : Dt) (Q : Dt → Prop) : Prop := match x with
  | .lst xs => match allB xs with
    | some bs => Q (.bl (bs.all id))
    | none => False
  | _ => False
def gAny (x : Dt) (Q : Dt → Prop) : Prop := match x with
  | .lst xs => match allB xs with
    | some bs => Q (.bl (bs.any id))
    | none => False
  | _ => False
theorem un_all {K : PySem.W.Frag} : Un1 U K (rAll K) gAll := ⟨fun e F ρ w σ H x v Q Q' R hx q k => by
  cases x with
  | lst xs =>
    obtain ⟨p, vs, e1, h1, d1⟩ := R.bor hx
    subst e1
    unfold gAll at q
    dsimp only at q
    cases eb : allB xs with
    | none => rw [eb] at q; exact q.elim
    | some bs =>
      rw [eb] at q
      have := allB_eq eb
      subst this
      have := d1.bls
      subst this
      exact ⟨p, bs, rfl, SqL.of h1, k _ _ F H q R (Same.refl _) rfl⟩
  | _ => exact (show False from q).elim⟩
theorem un_any {K : PySem.W.Frag} : Un1 U K (rAny K) gAny := ⟨fun e F ρ w σ H x v Q Q' R hx q k => by
  cases x with
  | lst xs =>
    obtain ⟨p, vs, e1, h1, d1⟩ := R.bor hx
    subst e1
    unfold gAny at q
    dsimp only at q
    cases eb : allB xs with
    | none => rw [eb] at q; exact q.elim
    | some bs =>
      rw [eb] at q
      have := allB_eq eb
      subst this
      have := d1.bls
      subst this
      exact ⟨p, bs, rfl, SqL.of h1, k _ _ F H q R (Same.refl _) rfl⟩
  | _ => exact (show False from q).elim⟩
theorem de_all {p2 pos : Pos} (hc : X.calm = true) (hg : Gl X "all") (hm : X.mg "all" = none) (ha : DB X U a ta) (hs : starEach [a] X.env = [(false, eval a X.env)] := by rfl) : DE X U (.Call (.Name "all" p2) [a] [] pos) (dUn gAll ta) :=
  de_callB (cr_all hc) un_all hg hm (by decide +kernel) ha (hs := hs)
theorem de_any {p2 pos : Pos} (hc : X.calm = true) (hg : Gl X "any") (hm : X.mg "any" = none) (ha : DB X U a ta) (hs : starEach [a] X.env = [(false, eval a X.env)] := by rfl) : DE X U (.Call (.Name "any" p2) [a] [] pos) (dUn gAny ta) :=
  de_callB (cr_any hc) un_any hg hm (by decide +kernel) ha (hs := hs)
def allI : List Dt → Option (List Int)
  | [] => some []
  | .int b :: r => (allI r).map (b :: ·)
  | _ :: _ => none
theorem allI_map : ∀ bs : List Int, allI (bs.map Dt.int) = some bs
  | [] => rfl
  | b :: r => by rw [List.map_cons]; show (allI (r.map Dt.int)).map (b :: ·) = _; rw [allI_map r]; rfl
theorem allI_eq : ∀ {xs : List Dt} {bs : List Int}, allI xs = some bs → xs = bs.map Dt.int
  | [], _, h => by cases h; rfl
  | .int b :: r, bs, h => by
    cases e : allI r with
    | none => simp [allI, e] at h
    | some cs =>
      simp [allI, e] at h
      subst h
      rw [allI_eq e]; rfl
  | .non :: _, _, h => nomatch h
  | .bl _ :: _, _, h => nomatch h
  | .str _ :: _, _, h => nomatch h
  | .tup _ :: _, _, h => nomatch h
  | .lst _ :: _, _, h => nomatch h
  | .ref _ :: _, _, h => nomatch h
def gSum (x : Dt) (Q : Dt → Prop) : Prop := match x with
  | .lst xs => match allI xs with
    | some ns => Q (.int ns.sum)
    | none => False
  | _ => False
theorem un_sum {K : PySem.W.Frag} : Un1 U K (rSum K) gSum := ⟨fun e F ρ w σ H x v Q Q' R hx q k => by
  cases x with
  | lst xs =>
    obtain ⟨p, vs, e1, h1, d1⟩ := R.bor hx
    subst e1
    unfold gSum at q
    dsimp only at q
    cases eb : allI xs with
    | none => rw [eb] at q; exact q.elim
    | some ns =>
      rw [eb] at q
      have := allI_eq eb
      subst this
      have := d1.ints
      subst this
      exact ⟨p, ns, rfl, SqL.of h1, k _ _ F H q R (Same.refl _) rfl⟩
  | _ => exact (show False from q).elim⟩
theorem de_sum {p2 pos : Pos} (hc : X.calm = true) (hg : Gl X "sum") (hm : X.mg "sum" = none) (ha : DB X U a ta) (hs : starEach [a] X.env = [(false, eval a X.env)] := by rfl) : DE X U (.Call (.Name "sum" p2) [a] [] pos) (dUn gSum ta) :=
  de_callB (cr_sum hc) un_sum hg hm (by decide +kernel) ha (hs := hs)
/-- max(i, j), min(i, j) -/
def dCall2 (f : Int → Int → Int) (ta tb : TD U) : TD U := dOp (gI0 fun i j => .int (f i j)) ta tb
theorem de_call2 {id : String} {x : Str} {f : Int → Int → Int} (hc : CallR X (.builtin id) (fun xs H Q => ∃ i j, xs = [.int i, .int j] ∧ Q (.int (f i j)) H)) (hg : Gl X x) (hm : X.mg x = none) (hv : bootBuiltins x = some (.builtin id)) (ha : DE X U a ta) (hb : DE X U b tb)
    (hn : x ≠ "__name__" := by decide) (hdb : (x == ("__debug__" : Str)) = false := by decide) (hs : starEach [a, b] X.env = [(false, eval a X.env), (false, eval b X.env)] := by rfl) (hs2 : starEach [b] X.env = [(false, eval b X.env)] := by rfl) (hpl : (backTo pos (starEach [b] X.env)).any (·.1) = false := by rfl) :
    DE X U (.Call (.Name x p) [a, b] [] pos) (dCall2 f ta tb) := ⟨fun e => (pe_callB hc hg hm hv (pa_cons (ha.run e) (pa_cons (hb.run e) pa_nil hs2) (by rw [hs, hs2])) hn hdb (by rw [hs, hs2]) hpl).weak fun σ H Q ⟨F, ρ, w, Q', R, q, k⟩ =>
  ⟨F, ρ, w, _, R, q, fun x v F1 w1 H1 q1 R1 s1 d1 => ⟨F1, ρ, w1, _, R1, q1, fun y u F2 w2 H2 q2 R2 s2 d2 => by
    unfold gI0 at q2
    split at q2
    · cases (show v = .int _ from d1)
      cases (show u = .int _ from d2)
      exact ⟨_, _, rfl, k _ _ F2 w2 H2 q2 R2 (s1.trans s2) rfl⟩
    · exact q2.elim⟩⟩⟩
def max2 (i j : Int) : Int := if j > i then j else i
def min2 (i j : Int) : Int := if j < i then j else i
theorem de_max2 {p2 pos : Pos} (hc : X.calm = true) (hg : Gl X "max") (hm : X.mg "max" = none) (ha : DE X U a ta) (hb : DE X U b tb) (hs : starEach [a, b] X.env = [(false, eval a X.env), (false, eval b X.env)] := by rfl) (hs2 : starEach [b] X.env = [(false, eval b X.env)] := by rfl)
    (hpl : (backTo pos (starEach [b] X.env)).any (·.1) = false := by rfl) : DE X U (.Call (.Name "max" p2) [a, b] [] pos) (dCall2 max2 ta tb) := de_call2 (call_max2 hc) hg hm (by decide +kernel) ha hb (hs := hs) (hs2 := hs2) (hpl := hpl)
theorem de_min2 {p2 pos : Pos} (hc : X.calm = true) (hg : Gl X "min") (hm : X.mg "min" = none) (ha : DE X U a ta) (hb : DE X U b tb) (hs : starEach [a, b] X.env = [(false, eval a X.env), (false, eval b X.env)] := by rfl) (hs2 : starEach [b] X.env = [(false, eval b X.env)] := by rfl)
    (hpl : (backTo pos (starEach [b] X.env)).any (·.1) = false := by rfl) : DE X U (.Call (.Name "min" p2) [a, b] [] pos) (dCall2 min2 ta tb) := de_call2 (call_min2 hc) hg hm (by decide +kernel) ha hb (hs := hs) (hs2 := hs2) (hpl := hpl)
/-- list(xs), tuple(xs) -/
def gSeq (x : Dt) (Q : List Dt → Prop) : Prop := match x with
  | .tup xs => Q xs
  | .lst xs => Q xs
  | _ => False
theorem un_list {K : PySem.W.Frag} : Un1L U K (fun xs H Q => ∃ p ys, xs = [.ref p] ∧ (SqL K H p ys ∨ SqT K H p ys) ∧ ∀ l, H l = none → Q (.ref l) (upd H l (.lst ys))) gSeq := ⟨fun e F ρ w σ H x v Q Q' R hx q k => by
  cases x with
  | tup xs =>
    obtain ⟨p, vs, e1, h1, d1⟩ := hx.tup
    subst e1
    refine ⟨p, vs, rfl, .inr (SqT.mono R.bas.fh h1), fun l hl => ?_⟩
    obtain ⟨R2, f2⟩ := R.mine hl vs
    exact k _ l vs F _ q R2 (Same.refl _) f2 d1
  | lst xs =>
    obtain ⟨p, vs, e1, h1, d1⟩ := R.bor hx
    subst e1
    refine ⟨p, vs, rfl, .inl (SqL.of h1), fun l hl => ?_⟩
    obtain ⟨R2, f2⟩ := R.mine hl vs
    exact k _ l vs F _ q R2 (Same.refl _) f2 d1
  | _ => exact (show False from q).elim⟩
theorem df_list {p2 pos : Pos} (hg : Gl X "list") (hm : X.mg "list" = none) (ha : DB X U a ta) (hs : starEach [a] X.env = [(false, eval a X.env)] := by rfl) : DF X U (.Call (.Name "list" p2) [a] [] pos) (dUnL gSeq ta) :=
  df_callTy call_list_of un_list hg hm (by decide +kernel) ha (hs := hs)
def gTupOf (x : Dt) (Q : Dt → Prop) : Prop := match x with
  | .tup xs => Q (.tup xs)
  | .lst xs => Q (.tup xs)
  | _ => False
theorem un_tuple {K : PySem.W.Frag} : Un1 U K (fun xs H Q => ∃ p ys, xs = [.ref p] ∧ ((SqL K H p ys ∧ ∀ l, H l = none → Q (.ref l) (upd H l (.tup ys))) ∨ (SqT K H p ys ∧ Q (.ref p) H))) gTupOf := ⟨fun e F ρ w σ H x v Q Q' R hx q k => by
  cases x with
  | tup xs =>
    obtain ⟨p, vs, e1, h1, d1⟩ := hx.tup
    subst e1
    exact ⟨p, vs, rfl, .inr ⟨SqT.mono R.bas.fh h1, k _ _ F H q R (Same.refl _) ⟨p, vs, rfl, h1, d1⟩⟩⟩
  | lst xs =>
    obtain ⟨p, vs, e1, h1, d1⟩ := R.bor hx
    subst e1
    refine ⟨p, vs, rfl, .inl ⟨SqL.of h1, fun l hl => ?_⟩⟩
    obtain ⟨R2, s2⟩ := R.laid hl (.tup vs)
    exact k _ _ _ _ q R2 s2 ⟨l, vs, rfl, .inl (.inl upd_same), DinL.mono s2 _ _ d1⟩
  | _ => exact (show False from q).elim⟩
theorem de_tuple {p2 pos : Pos} (hg : Gl X "tuple") (hm : X.mg "tuple" = none) (ha : DB X U a ta) (hs : starEach [a] X.env = [(false, eval a X.env)] := by rfl) : DE X U (.Call (.Name "tuple" p2) [a] [] pos) (dUn gTupOf ta) :=
  de_callTy call_tuple_of un_tuple hg hm (by decide +kernel) ha (hs := hs)

/-! ### isinstance -/
def Dt.ty : Dt → Option String
  | .non => some "NoneType"
  | .bl _ => some "bool"
  | .int _ => some "int"
  | .str _ => some "str"
  | .tup _ => some "tuple"
  | .lst _ => some "list"
  | .ref _ => none
theorem Rel.tyx {K : PySem.W.Frag} {e : Ent U} {F : Hp} {ρ : Rho} {w : U.W} {σ : St} {H : Hp} (R : Rel U K e F ρ w σ H) {x : Dt} {v : V} (h : BorV K F ρ σ x v) {t : String} (ht : x.ty = some t) : TyX K H v (.type t) := by
  cases x with
  | non => cases ht; rw [h.non]; exact .base .non
  | bl b => cases ht; rw [h.bl]; exact .base (.bl b)
  | int b => cases ht; rw [h.int]; exact .base (.int b)
  | str b => cases ht; rw [h.str.1]; exact .base (.str b)
  | tup xs =>
    cases ht
    obtain ⟨p, vs, e1, h1, d1⟩ := h.tup
    subst e1
    rcases SqT.mono R.bas.fh h1 with (h2 | ⟨o, h2⟩) | ⟨o, its, n, h2, c2, _⟩
    · exact .base (.tup h2)
    · exact .fTuple h2
    · exact .kTuple h2 c2
  | lst xs =>
    cases ht
    obtain ⟨p, vs, e1, h1, d1⟩ := R.bor h
    subst e1
    exact .base (.lst h1)
  | ref a => cases ht
/-- isinstance(x, T): f tells the answer -/
def gIsi (f : Dt → Bool) (x : Dt) (Q : Dt → Prop) : Prop := match x with
  | .ref _ => False
  | x => Q (.bl (f x))
theorem gIsi_inv {f : Dt → Bool} {x : Dt} {Q : Dt → Prop} (h : gIsi f x Q) : ∃ t, x.ty = some t ∧ Q (.bl (f x)) := by
  cases x with
  | ref a => exact h.elim
  | _ => exact ⟨_, rfl, h⟩
theorem de_isi {T : Str} {Tn : String} {p2 p3 pos : Pos} {f : Dt → Bool} (hg : Gl X "isinstance") (hm : X.mg "isinstance" = none) (hgT : Gl X T) (hmT : X.mg T = none) (hvT : bootBuiltins T = some (.type Tn)) (ha : DB X U a ta)
    (hf : ∀ x t, x.ty = some t → kitB t Tn = some (f x)) (hn : T ≠ "__name__" := by decide) (hdb : (T == ("__debug__" : Str)) = false := by decide) (hs : starEach [a, .Name T p3] X.env = [(false, eval a X.env), (false, eval (.Name T p3) X.env)] := by rfl)
    (hs2 : starEach [.Name T p3] X.env = [(false, eval (.Name T p3) X.env)] := by rfl) (hpl : (backTo pos (starEach [.Name T p3] X.env)).any (·.1) = false := by rfl) :
    DE X U (.Call (.Name "isinstance" p2) [a, .Name T p3] [] pos) (dUn (gIsi f) ta) := ⟨fun e => (pe_callB call_isi hg hm (by decide +kernel) (pa_cons (ha.run e) (pa_cons (pe_bltn (v := .ty Tn) hgT hmT hvT rfl hn hdb) pa_nil hs2) (by rw [hs, hs2])) (by decide) (by decide) (by rw [hs, hs2]) hpl).weak
  fun σ H Q ⟨F, ρ, w, Q', R, q, k⟩ => ⟨F, ρ, w, _, R, q, fun x v F1 w1 H1 q1 R1 s1 b1 => by
    obtain ⟨t, et, q1⟩ := gIsi_inv q1
    exact ⟨v, .ty Tn, _, _, f x, rfl, .ty Tn, R1.tyx b1 et, kit_ty (hf _ _ et), k _ _ F1 w1 H1 q1 R1 s1 rfl⟩⟩⟩
/-- isinstance(x, (T1, T2)) -/
theorem de_isi2 {T T' : Str} {Tn Tn' : String} {p2 p3 p4 pos pt : Pos} {kt} {f f' : Dt → Bool} (hg : Gl X "isinstance") (hm : X.mg "isinstance" = none) (hgT : Gl X T) (hmT : X.mg T = none) (hvT : bootBuiltins T = some (.type Tn)) (hgT' : Gl X T') (hmT' : X.mg T' = none) (hvT' : bootBuiltins T' = some (.type Tn')) (ha : DB X U a ta)
    (hf : ∀ x t, x.ty = some t → kitB t Tn = some (f x)) (hf' : ∀ x t, x.ty = some t → kitB t Tn' = some (f' x)) (hn : T ≠ "__name__" := by decide) (hdb : (T == ("__debug__" : Str)) = false := by decide) (hn' : T' ≠ "__name__" := by decide) (hdb' : (T' == ("__debug__" : Str)) = false := by decide)
    (hs : starEach [a, .Tuple [.Name T p3, .Name T' p4] kt pt] X.env = [(false, eval a X.env), (false, eval (.Tuple [.Name T p3, .Name T' p4] kt pt) X.env)] := by rfl)
    (hs2 : starEach [.Tuple [.Name T p3, .Name T' p4] kt pt] X.env = [(false, eval (.Tuple [.Name T p3, .Name T' p4] kt pt) X.env)] := by rfl) (hpl : (backTo pos (starEach [.Tuple [.Name T p3, .Name T' p4] kt pt] X.env)).any (·.1) = false := by rfl) :
    DE X U (.Call (.Name "isinstance" p2) [a, .Tuple [.Name T p3, .Name T' p4] kt pt] [] pos) (dUn (gIsi fun x => f x || f' x) ta) := ⟨fun e => (pe_callB call_isiT hg hm (by decide +kernel) (pa_cons (ha.run e) (pa_cons (pe_tup (pa_cons (pe_bltn (v := .ty Tn) hgT hmT hvT rfl hn hdb) (pa_cons (pe_bltn (v := .ty Tn') hgT' hmT' hvT' rfl hn' hdb') pa_nil))) pa_nil hs2) (by rw [hs, hs2])) (by decide) (by decide) (by rw [hs, hs2]) hpl).weak
  fun σ H Q ⟨F, ρ, w, Q', R, q, k⟩ => ⟨F, ρ, w, _, R, q, fun x v F1 w1 H1 q1 R1 s1 b1 => by
    obtain ⟨t, et, q1⟩ := gIsi_inv q1
    have k1 := hf _ _ et
    have k2 := hf' _ _ et
    refine ⟨by show 2 ≤ sizeLine; decide, fun tp htp => ?_⟩
    obtain ⟨R2, s2⟩ := R1.laid htp (.tup [.ty Tn, .ty Tn'])
    refine ⟨v, tp, [.ty Tn, .ty Tn'], _, [.type Tn, .type Tn'], f x || f' x, rfl, upd_same, .cons (.ty _) (.cons (.ty _) .nil), R2.tyx (b1.mono s2) et, ?_, k _ _ _ w1 _ q1 R2 (s1.trans s2) rfl⟩
    refine kitAny_cons (kit_ty k1) (fun z => kitAny_cons (kit_ty k2) (fun z2 => ?_) (fun z2 => ?_)) (fun z => ?_)
    · rw [z, z2]; exact kitAny_nil
    · rw [z2, Bool.or_true]
    · rw [z]; rfl⟩⟩
def Dt.isInt : Dt → Bool
  | .int _ => true
  | .bl _ => true
  | _ => false
def Dt.isBl : Dt → Bool
  | .bl _ => true
  | _ => false
def Dt.isStr : Dt → Bool
  | .str _ => true
  | _ => false
def Dt.isTup : Dt → Bool
  | .tup _ => true
  | _ => false
def Dt.isLst : Dt → Bool
  | .lst _ => true
  | _ => false
theorem isi_int : ∀ (x : Dt) t, x.ty = some t → kitB t "int" = some x.isInt := by intro x t h; cases x <;> cases h <;> simp only [Dt.isInt] <;> decide +kernel
theorem isi_bool : ∀ (x : Dt) t, x.ty = some t → kitB t "bool" = some x.isBl := by intro x t h; cases x <;> cases h <;> simp only [Dt.isBl] <;> decide +kernel
theorem isi_str : ∀ (x : Dt) t, x.ty = some t → kitB t "str" = some x.isStr := by intro x t h; cases x <;> cases h <;> simp only [Dt.isStr] <;> decide +kernel
theorem isi_tuple : ∀ (x : Dt) t, x.ty = some t → kitB t "tuple" = some x.isTup := by intro x t h; cases x <;> cases h <;> simp only [Dt.isTup] <;> decide +kernel
theorem isi_list : ∀ (x : Dt) t, x.ty = some t → kitB t "list" = some x.isLst := by intro x t h; cases x <;> cases h <;> simp only [Dt.isLst] <;> decide +kernel
end
end DL

set_option Elab.async false
set_option linter.all false
set_option maxRecDepth 100000
set_option maxHeartbeats 4000000
namespace DL
open PySem L2
section
variable {X : Cx} {U : Wd} {a b c ex : Expr} {rest : List Expr} {ta tb tc : TD U} {ka kb : TDT U} {pos p : Pos}

/-! ### targets -/
abbrev TDG (U : Wd) := Dt → Rho → U.W → (Rho → U.W → Prop) → Prop
abbrev TDGs (U : Wd) := List Dt → Rho → U.W → (Rho → U.W → Prop) → Prop
/-- is: the slots that are set -/
def upG (U : Wd) (K : PySem.W.Frag) (e : Ent U) (js : List Nat) (t : TDG U) : TG := fun v σ H Q => ∃ F ρ w x Q', Rel U K e F ρ w σ H ∧ Din K F x v ∧ t x ρ w Q' ∧ ∀ ρ' w' σ' F' H', Q' ρ' w' → Rel U K e F' ρ' w' σ' H' → Same F F' → (∀ vs, (∀ j ∈ js, j ∈ vs) → wipe σ' vs = wipe σ vs) → Q σ' H'
def upGs (U : Wd) (K : PySem.W.Frag) (e : Ent U) (js : List Nat) (t : TDGs U) : TGs := fun vs σ H Q => ∃ F ρ w xs Q', Rel U K e F ρ w σ H ∧ DinL K F xs vs ∧ t xs ρ w Q' ∧ ∀ ρ' w' σ' F' H', Q' ρ' w' → Rel U K e F' ρ' w' σ' H' → Same F F' → (∀ vs, (∀ j ∈ js, j ∈ vs) → wipe σ' vs = wipe σ vs) → Q σ' H'
structure DG (X : Cx) (U : Wd) (tg : Expr) (js : List Nat) (t : TDG U) : Prop where
  run : ∀ e, PG X tg (upG U X.K e js t)
structure DGs (X : Cx) (U : Wd) (tgs : List Expr) (js : List Nat) (t : TDGs U) : Prop where
  run : ∀ e, PGs X tgs (upGs U X.K e js t)
theorem _root_.L2.PG.weak {tg : Expr} {t t' : TG} (h : PG X tg t) (i : ∀ v σ H Q, t' v σ H Q → t v σ H Q) : PG X tg t' := ⟨fun pins s σ H v u Q I r q => h.run pins s σ H v u Q I r (i v σ H Q q)⟩
theorem _root_.L2.PGs.weak {tg : List Expr} {t t' : TGs} (h : PGs X tg t) (i : ∀ v σ H Q, t' v σ H Q → t v σ H Q) : PGs X tg t' := ⟨fun pins s σ H v u Q I r q => h.run pins s σ H v u Q I r (i v σ H Q q)⟩
theorem wipe_set {x : Option V} {i : Nat} : ∀ {vs : List Nat} {σ : St}, i ∈ vs → wipe (σ.set i x) vs = wipe σ vs
  | [], _, h => nomatch h
  | v :: vs, σ, h => by
    unfold wipe
    by_cases hm : i ∈ vs
    · rw [wipe_set hm]
    · have e : i = v := by
        rcases List.mem_cons.mp h with z | z
        · exact z
        · exact absurd z hm
      subst e
      have gen : ∀ (ws : List Nat) (τ : St), i ∉ ws → wipe (τ.set i x) ws = (wipe τ ws).set i x := fun ws => by
        induction ws with
        | nil => intro τ _; rfl
        | cons y ys ih =>
          intro τ hn
          have h1 : i ≠ y := fun z => hn (z ▸ List.mem_cons_self ..)
          have h2 : i ∉ ys := fun z => hn (List.mem_cons_of_mem _ z)
          show (wipe (τ.set i x) ys).set y none = ((wipe τ ys).set y none).set i x
          rw [ih τ h2, List.set_comm _ _ h1]
      rw [gen vs σ hm, List.set_set]
def gN (i : Nat) : TDG U := fun x ρ w Q => Q (ρ.set i (some (.d x))) w
theorem dg_name {i : Nat} {x : Str} (hN : X.N.Nodup) (hi : X.N[i]? = some x) (hx : Loc X.env.scope x) (hf : X.fn x = true ∨ X.env.scope.names.lookup x = some .local := by first | exact .inl rfl | exact .inr rfl | assumption) : DG X U (.Name x pos) [i] (gN i) :=
  ⟨fun e => (pg_name hN hi hx hf).weak fun v σ H Q ⟨F, ρ, w, x, Q', R, d, q, k⟩ => k _ _ _ F H q (R.set d i) (Same.refl _) fun vs hv => wipe_set (hv i (List.mem_cons_self ..))⟩
def gsNil : TDGs U := fun xs ρ w Q => match xs with
  | [] => Q ρ w
  | _ => False
def gsCons (t : TDG U) (u : TDGs U) : TDGs U := fun xs ρ w Q => match xs with
  | x :: r => t x ρ w fun ρ1 w1 => u r ρ1 w1 Q
  | [] => False
theorem dgs_nil : DGs X U [] [] gsNil := ⟨fun e => pgs_nil.weak fun v σ H Q ⟨F, ρ, w, xs, Q', R, d, q, k⟩ => by
  cases xs with
  | nil => exact ⟨d, k ρ w σ F H q R (Same.refl _) fun _ _ => rfl⟩
  | cons _ _ => exact q.elim⟩
theorem dgs_cons {es : List Expr} {js ks : List Nat} {t : TDG U} {u : TDGs U} (h1 : DG X U ex js t) (h2 : DGs X U es ks u) (hs : (assignEach (ex :: es) X.env).map (·.2) = assign ex X.env :: (assignEach es X.env).map (·.2) := by rfl) : DGs X U (ex :: es) (js ++ ks) (gsCons t u) :=
  ⟨fun e => (pgs_cons (h1.run e) (h2.run e) hs).weak fun v σ H Q ⟨F, ρ, w, xs, Q', R, d, q, k⟩ => by
    cases xs with
    | nil => exact q.elim
    | cons x r =>
      obtain ⟨v1, vt, e1, d1, d2⟩ := d
      refine ⟨v1, vt, e1, F, ρ, w, x, _, R, d1, q, fun ρ1 w1 σ1 F1 H1 q1 R1 s1 g1 => ⟨F1, ρ1, w1, r, Q', R1, DinL.mono s1 _ _ d2, q1, fun ρ2 w2 σ2 F2 H2 q2 R2 s2 g2 => k ρ2 w2 σ2 F2 H2 q2 R2 (s1.trans s2) fun vs hv => ?_⟩⟩
      rw [g2 vs fun j hj => hv j (List.mem_append_right _ hj), g1 vs fun j hj => hv j (List.mem_append_left _ hj)]⟩
def gT (n : Nat) (t : TDGs U) : TDG U := fun x ρ w Q => match x with
  | .tup xs => xs.length = n ∧ t xs ρ w Q
  | _ => False
theorem dg_tup {es : List Expr} {k : Nat} {js : List Nat} {t : TDGs U} {n : Nat} (hc : X.calm = true) (h : DGs X U es js t) (hn : (assignEach es X.env).length = n := by rfl) (hst : (assignEach es X.env).findIdx? (·.1) = none := by rfl) : DG X U (.Tuple es k pos) js (gT n t) :=
  ⟨fun e => (pg_tup hc (h.run e) hn hst).weak fun v σ H Q ⟨F, ρ, w, x, Q', R, d, q, k⟩ => by
    cases x with
    | tup xs =>
      obtain ⟨a, vs, e1, h1, d1⟩ := d
      exact ⟨a, vs, e1, SqT.mono R.bas.fh h1, by rw [d1.length]; exact q.1, F, ρ, w, xs, Q', R, d1, q.2, k⟩
    | _ => exact q.elim⟩

/-! ### what is walked -/
structure Walks (U : Wd) (K : PySem.W.Frag) (J : It) (F : Hp) (ds : List Dt) : Prop where
  go : ∀ {e : Ent U} {F' : Hp} {ρ w σ H} {i : Nat}, Rel U K e F' ρ w σ H → Same F F' → i < ds.length → J.go i H
  yld : ∀ {e : Ent U} {F' : Hp} {ρ w σ H} {i : Nat} {d : Dt} {v : V} {H' : Hp}, Rel U K e F' ρ w σ H → Same F F' → ds[i]? = some d → J.yld i H v H' → ∃ F'', Rel U K e F'' ρ w σ H' ∧ Same F' F'' ∧ Din K F'' d v ∧ (∀ b o, H b = some o → H' b = some o)
  stop : ∀ {e : Ent U} {F' : Hp} {ρ w σ H} {i : Nat}, Rel U K e F' ρ w σ H → Same F F' → ds.length ≤ i → J.stop i H
def upI (U : Wd) (K : PySem.W.Frag) (e : Ent U) (t : TDL U) : TI := fun σ H R => ∃ F ρ w Q', Rel U K e F ρ w σ H ∧ t ρ w Q' ∧ ∀ ds F' w' H' J, Q' ds w' → Rel U K e F' ρ w' σ H' → Same F F' → Walks U K J F' ds → R J H'
structure DI (X : Cx) (U : Wd) (tg iter : Expr) (t : TDL U) : Prop where
  run : ∀ e, PI X tg iter (upI U X.K e t)
theorem _root_.L2.PI.weak {tg it : Expr} {t t' : TI} (h : PI X tg it t) (i : ∀ σ H R, t' σ H R → t σ H R) : PI X tg it t' := ⟨fun pins s σ H R I q => h.run pins s σ H R I (i σ H R q)⟩
theorem walks_list {K : PySem.W.Frag} {F : Hp} {p : Addr} {vs : List V} {ds : List Dt} (h : F p = some (.lst vs)) (d : DinL K F ds vs) : Walks U K (Itl K p) F ds where
  go := fun {e F' ρ w σ H i} R s hi => by
    obtain ⟨v, hv, _⟩ := d.get (List.getElem?_eq_getElem hi)
    exact ⟨vs, v, SqL.of (R.bas.fh _ _ (s _ _ h)), hv⟩
  yld := fun {e F' ρ w σ H i x v H'} R s hi ⟨e1, hy⟩ => by
    subst e1
    obtain ⟨u, hu, du⟩ := d.get hi
    have := hy vs (SqL.of (R.bas.fh _ _ (s _ _ h)))
    rw [hu] at this; cases this
    exact ⟨F', R, Same.refl _, Din.mono s _ _ du, fun _ _ h => h⟩
  stop := fun {e F' ρ w σ H i} R s hi => ⟨vs, SqL.of (R.bas.fh _ _ (s _ _ h)), by rw [d.length]; exact hi⟩
theorem walks_tup {K : PySem.W.Frag} {F : Hp} {p : Addr} {vs : List V} {ds : List Dt} (h : SqT K F p vs) (d : DinL K F ds vs) : Walks U K (Itt K p) F ds where
  go := fun {e F' ρ w σ H i} R s hi => by
    obtain ⟨v, hv, _⟩ := d.get (List.getElem?_eq_getElem hi)
    exact ⟨vs, v, SqT.mono (s.trans R.bas.fh) h, hv⟩
  yld := fun {e F' ρ w σ H i x v H'} R s hi ⟨e1, hy⟩ => by
    subst e1
    obtain ⟨u, hu, du⟩ := d.get hi
    have := hy vs (SqT.mono (s.trans R.bas.fh) h)
    rw [hu] at this; cases this
    exact ⟨F', R, Same.refl _, Din.mono s _ _ du, fun _ _ h => h⟩
  stop := fun {e F' ρ w σ H i} R s hi => ⟨vs, SqT.mono (s.trans R.bas.fh) h, by rw [d.length]; exact hi⟩
def diL (t : TD U) : TDL U := fun ρ w Q => t ρ w fun x w1 => match x with
  | .lst xs => Q xs w1
  | _ => False
def diT (t : TD U) : TDL U := fun ρ w Q => t ρ w fun x w1 => match x with
  | .tup xs => Q xs w1
  | _ => False
theorem di_list {tg : Expr} (h : DE X U ex ta) : DI X U tg ex (diL ta) := ⟨fun e => (pi_list (h.run e)).weak fun σ H Q ⟨F, ρ, w, Q', R, q, k⟩ => ⟨F, ρ, w, _, R, q, fun x v F1 w1 H1 q1 R1 s1 d1 => by
  cases x with
  | lst xs =>
    obtain ⟨p, vs, e1, h1, dd⟩ := d1
    exact ⟨p, e1, ⟨vs, SqL.of (R1.bas.fh _ _ h1)⟩, k xs F1 w1 H1 _ q1 R1 s1 (walks_list h1 dd)⟩
  | _ => exact q1.elim⟩⟩
theorem di_tup {tg : Expr} (h : DE X U ex ta) : DI X U tg ex (diT ta) := ⟨fun e => (pi_tup (h.run e)).weak fun σ H Q ⟨F, ρ, w, Q', R, q, k⟩ => ⟨F, ρ, w, _, R, q, fun x v F1 w1 H1 q1 R1 s1 d1 => by
  cases x with
  | tup xs =>
    obtain ⟨p, vs, e1, h1, dd⟩ := d1
    exact ⟨p, e1, ⟨vs, SqT.mono R1.bas.fh h1⟩, k xs F1 w1 H1 _ q1 R1 s1 (walks_tup h1 dd)⟩
  | _ => exact q1.elim⟩⟩
/-- a text, sign by sign -/
def signs (s : Str) : List Dt := s.cps.toList.map fun c => .str ⟨#[c]⟩
def diS (t : TD U) : TDL U := fun ρ w Q => t ρ w fun x w1 => match x with
  | .str s => Q (signs s) w1
  | _ => False
theorem di_str {tg : Expr} (h : DE X U ex ta) : DI X U tg ex (diS ta) := ⟨fun e => (pi_str (h.run e)).weak fun σ H Q ⟨F, ρ, w, Q', R, q, k⟩ => ⟨F, ρ, w, _, R, q, fun x v F1 w1 H1 q1 R1 s1 d1 => by
  cases x with
  | str s =>
    obtain ⟨e1, ok⟩ := d1
    have el : (signs s).length = s.cps.size := by simp [signs]
    refine ⟨s, e1, k (signs s) F1 w1 H1 (Its s) q1 R1 s1 ⟨fun {e F' ρ w σ H i} R sm hi => by rw [el] at hi; exact hi, fun {e F' ρ w σ H i d v H'} R sm hi hy => ?_, fun {e F' ρ w σ H i} R sm hi => by rw [el] at hi; exact hi⟩⟩
    obtain ⟨e2, c, hc, e3⟩ := hy
    subst e2 e3
    have e4 : d = .str ⟨#[c]⟩ := by
      have hc' : s.cps.toList[i]? = some c := by simpa using hc
      unfold signs at hi
      rw [List.getElem?_map, hc'] at hi
      exact (Option.some.inj hi).symm
    subst e4
    refine ⟨F', R, Same.refl _, ⟨rfl, strOk_of fun c' hc' => ?_⟩, fun _ _ h => h⟩
    have : c' = c := by simpa using hc'
    subst this
    have hc2 : s.cps.toList[i]? = some c' := by simpa using hc
    exact strOk_all ok _ (List.mem_of_getElem? hc2)
  | _ => exact q1.elim⟩⟩
/-- range(n), range(m, n) -/
def rngD (lo : Int) (n : Nat) : List Dt := (List.range n).map fun i => .int (lo + (i : Nat))
theorem walks_rng {K : PySem.W.Frag} {F : Hp} {lo : Int} {n : Nat} : Walks U K (Itr lo n) F (rngD lo n) where
  go := fun {e F' ρ w σ H i} R s hi => by show i < n; simpa [rngD] using hi
  yld := fun {e F' ρ w σ H i d v H'} R s hi hy => by
    obtain ⟨e1, e2⟩ := hy
    subst e1 e2
    have hl : i < n := by
      have := (List.getElem?_eq_some_iff.mp hi).1
      simpa [rngD] using this
    have e3 : d = .int (lo + (i : Nat)) := by
      unfold rngD at hi
      rw [List.getElem?_map, List.getElem?_range hl] at hi
      exact (Option.some.inj hi).symm
    subst e3
    exact ⟨F', R, Same.refl _, rfl, fun _ _ h => h⟩
  stop := fun {e F' ρ w σ H i} R s hi => by show n ≤ i; simpa [rngD] using hi
def diR1 (t : TDL U) : TDL U := fun ρ w Q => t ρ w fun xs w1 => match xs with
  | [.int j] => (-(2 ^ 62) ≤ j ∧ j < 2 ^ 62) ∧ Q (rngD 0 j.toNat) w1
  | _ => False
def diR2 (t : TDL U) : TDL U := fun ρ w Q => t ρ w fun xs w1 => match xs with
  | [.int i, .int j] => (-(2 ^ 62) ≤ i ∧ i < 2 ^ 62 ∧ -(2 ^ 62) ≤ j ∧ j < 2 ^ 62) ∧ Q (rngD i (j - i).toNat) w1
  | _ => False
theorem DinL.one {K : PySem.W.Frag} {F : Hp} {x : Dt} {vs : List V} (d : DinL K F [x] vs) : ∃ v, vs = [v] ∧ Din K F x v := by
  obtain ⟨v, vt, e1, d1, d2⟩ := d
  cases (show vt = [] from d2)
  exact ⟨v, e1, d1⟩
theorem DinL.two {K : PySem.W.Frag} {F : Hp} {x y : Dt} {vs : List V} (d : DinL K F [x, y] vs) : ∃ v u, vs = [v, u] ∧ Din K F x v ∧ Din K F y u := by
  obtain ⟨v, vt, e1, d1, d2⟩ := d
  obtain ⟨u, ut, e2, d3, d4⟩ := d2
  cases (show ut = [] from d4)
  subst e2
  exact ⟨v, u, e1, d1, d3⟩
theorem di_range1 {tg : Expr} {t : TDL U} (hg : Gl X "range") (hm : X.mg "range" = none) (ha : DA X U [a] t) (hs : starEach [a] X.env = [(false, eval a X.env)] := by rfl) : DI X U tg (.Call (.Name "range" p) [a] [] pos) (diR1 t) :=
  ⟨fun e => (pi_range1 hg hm (ha.run e) hs).weak fun σ H Q ⟨F, ρ, w, Q', R, q, k⟩ => ⟨F, ρ, w, _, R, q, fun xs vs F1 w1 H1 q1 R1 s1 d1 => by
    split at q1
    · rename_i j
      obtain ⟨v, e1, d2⟩ := d1.one
      cases (show v = .int j from d2)
      exact ⟨j, e1, q1.1.1, q1.1.2, k _ F1 w1 H1 _ q1.2 R1 s1 walks_rng⟩
    · exact q1.elim⟩⟩
theorem di_range2 {tg : Expr} {t : TDL U} (hg : Gl X "range") (hm : X.mg "range" = none) (ha : DA X U [a, b] t) (hs : starEach [a, b] X.env = [(false, eval a X.env), (false, eval b X.env)] := by rfl) (hs2 : starEach [b] X.env = [(false, eval b X.env)] := by rfl) :
    DI X U tg (.Call (.Name "range" p) [a, b] [] pos) (diR2 t) :=
  ⟨fun e => (pi_range2 hg hm (ha.run e) hs hs2).weak fun σ H Q ⟨F, ρ, w, Q', R, q, k⟩ => ⟨F, ρ, w, _, R, q, fun xs vs F1 w1 H1 q1 R1 s1 d1 => by
    split at q1
    · rename_i i j
      obtain ⟨v, u, e1, d2, d3⟩ := d1.two
      cases (show v = .int i from d2)
      cases (show u = .int j from d3)
      exact ⟨i, j, e1, q1.1, k _ F1 w1 H1 _ q1.2 R1 s1 walks_rng⟩
    · exact q1.elim⟩⟩
/-- zip of two lists or two tuples -/
def zipD : List Dt → List Dt → List Dt
  | x :: xs, y :: ys => .tup [x, y] :: zipD xs ys
  | _, _ => []
theorem zipD_length : ∀ xs ys : List Dt, (zipD xs ys).length = min xs.length ys.length
  | [], ys => by cases ys <;> simp [zipD]
  | x :: xs, [] => by simp [zipD]
  | x :: xs, y :: ys => by
    show (zipD xs ys).length + 1 = min (xs.length + 1) (ys.length + 1)
    rw [zipD_length xs ys]; omega
theorem zipD_get : ∀ {xs ys : List Dt} {i : Nat} {d : Dt}, (zipD xs ys)[i]? = some d → ∃ x y, xs[i]? = some x ∧ ys[i]? = some y ∧ d = .tup [x, y]
  | [], ys, i, d, h => by cases ys <;> simp [zipD] at h
  | x :: xs, [], i, d, h => by simp [zipD] at h
  | x :: xs, y :: ys, 0, d, h => by
    have : Dt.tup [x, y] = d := by simpa [zipD] using h
    exact ⟨x, y, rfl, rfl, this.symm⟩
  | x :: xs, y :: ys, i + 1, d, h => by
    have h' : (zipD xs ys)[i]? = some d := by simpa [zipD] using h
    obtain ⟨x', y', h1, h2, h3⟩ := zipD_get h'
    exact ⟨x', y', by simpa using h1, by simpa using h2, h3⟩
def gZip (x y : Dt) (Q : List Dt → Prop) : Prop := match x, y with
  | .lst xs, .lst ys => Q (zipD xs ys)
  | .tup xs, .tup ys => Q (zipD xs ys)
  | _, _ => False
def diZ (ta tb : TD U) : TDL U := fun ρ w Q => ta ρ w fun x w1 => tb ρ w1 fun y w2 => gZip x y fun z => Q z w2
theorem di_zip {elts : List Expr} {kk : Nat} {tpos : Pos} (hg : Gl X "zip") (hm : X.mg "zip" = none) (ha : DE X U a ta) (hb : DE X U b tb)
    (hs : starEach [a, b] X.env = (false, eval a X.env) :: starEach [b] X.env := by rfl) (hs2 : starEach [b] X.env = [(false, eval b X.env)] := by rfl) (hpl : (backTo pos (starEach [b] X.env)).any (·.1) = false := by rfl) :
    DI X U (.Tuple elts kk tpos) (.Call (.Name "zip" p) [a, b] [] pos) (diZ ta tb) :=
  ⟨fun e => (RZ.pi_zipA hg hm (pa_cons (ha.run e) (pa_cons (hb.run e) pa_nil hs2) hs) hs hpl).weak fun σ H Q ⟨F, ρ, w, Q', R, q, k⟩ => ⟨F, ρ, w, _, R, q, fun x v F1 w1 H1 q1 R1 s1 d1 => ⟨F1, ρ, w1, _, R1, q1, fun y u F2 w2 H2 q2 R2 s2 d2 => by
    have d1' := Din.mono s2 _ _ d1
    unfold gZip at q2
    split at q2
    · rename_i xs ys
      obtain ⟨p1, vs, e1, h1, dd1⟩ := d1'
      obtain ⟨p2, us, e2, h2, dd2⟩ := d2
      subst e1 e2
      refine ⟨p1, p2, vs, us, rfl, .inl ⟨SqL.of (R2.bas.fh _ _ h1), SqL.of (R2.bas.fh _ _ h2), k _ F2 w2 H2 _ q2 R2 (s1.trans s2) ⟨fun {e F' ρ w σ H i} R sm hi => ?_, fun {e F' ρ w σ H i d v H'} R sm hi hy => ?_, fun {e F' ρ w σ H i} R sm hi => ?_⟩⟩⟩
      · rw [zipD_length] at hi
        obtain ⟨v1, hv1, _⟩ := dd1.get (List.getElem?_eq_getElem (by omega : i < xs.length))
        obtain ⟨v2, hv2, _⟩ := dd2.get (List.getElem?_eq_getElem (by omega : i < ys.length))
        exact ⟨vs, us, v1, v2, SqL.of (R.bas.fh _ _ (sm _ _ h1)), SqL.of (R.bas.fh _ _ (sm _ _ h2)), hv1, hv2⟩
      · obtain ⟨T, x, y, rfl, hT, rfl, hx, hy⟩ := hy
        obtain ⟨dx, dy, g1, g2, rfl⟩ := zipD_get hi
        obtain ⟨v1, hv1, dv1⟩ := dd1.get g1
        obtain ⟨v2, hv2, dv2⟩ := dd2.get g2
        have z1 := hx vs (SqL.of (R.bas.fh _ _ (sm _ _ h1)))
        have z2 := hy us (SqL.of (R.bas.fh _ _ (sm _ _ h2)))
        rw [hv1] at z1; cases z1
        rw [hv2] at z2; cases z2
        obtain ⟨R3, s3⟩ := R.laid hT (.tup [x, y])
        exact ⟨_, R3, s3, ⟨T, _, rfl, .inl (.inl upd_same), x, _, rfl, Din.mono (sm.trans s3) _ _ dv1, y, _, rfl, Din.mono (sm.trans s3) _ _ dv2, rfl⟩, fun b o h => by rw [upd_ne (ne_of_none h hT)]; exact h⟩
      · rw [zipD_length] at hi
        exact ⟨vs, us, SqL.of (R.bas.fh _ _ (sm _ _ h1)), SqL.of (R.bas.fh _ _ (sm _ _ h2)), by rw [dd1.length, dd2.length]; omega⟩
    · rename_i xs ys
      obtain ⟨p1, vs, e1, h1, dd1⟩ := d1'
      obtain ⟨p2, us, e2, h2, dd2⟩ := d2
      subst e1 e2
      refine ⟨p1, p2, vs, us, rfl, .inr ⟨SqT.mono R2.bas.fh h1, SqT.mono R2.bas.fh h2, k _ F2 w2 H2 _ q2 R2 (s1.trans s2) ⟨fun {e F' ρ w σ H i} R sm hi => ?_, fun {e F' ρ w σ H i d v H'} R sm hi hy => ?_, fun {e F' ρ w σ H i} R sm hi => ?_⟩⟩⟩
      · rw [zipD_length] at hi
        obtain ⟨v1, hv1, _⟩ := dd1.get (List.getElem?_eq_getElem (by omega : i < xs.length))
        obtain ⟨v2, hv2, _⟩ := dd2.get (List.getElem?_eq_getElem (by omega : i < ys.length))
        exact ⟨vs, us, v1, v2, SqT.mono (sm.trans R.bas.fh) h1, SqT.mono (sm.trans R.bas.fh) h2, hv1, hv2⟩
      · obtain ⟨T, x, y, rfl, hT, rfl, hx, hy⟩ := hy
        obtain ⟨dx, dy, g1, g2, rfl⟩ := zipD_get hi
        obtain ⟨v1, hv1, dv1⟩ := dd1.get g1
        obtain ⟨v2, hv2, dv2⟩ := dd2.get g2
        have z1 := hx vs (SqT.mono (sm.trans R.bas.fh) h1)
        have z2 := hy us (SqT.mono (sm.trans R.bas.fh) h2)
        rw [hv1] at z1; cases z1
        rw [hv2] at z2; cases z2
        obtain ⟨R3, s3⟩ := R.laid hT (.tup [x, y])
        exact ⟨_, R3, s3, ⟨T, _, rfl, .inl (.inl upd_same), x, _, rfl, Din.mono (sm.trans s3) _ _ dv1, y, _, rfl, Din.mono (sm.trans s3) _ _ dv2, rfl⟩, fun b o h => by rw [upd_ne (ne_of_none h hT)]; exact h⟩
      · rw [zipD_length] at hi
        exact ⟨vs, us, SqT.mono (sm.trans R.bas.fh) h1, SqT.mono (sm.trans R.bas.fh) h2, by rw [dd1.length, dd2.length]; omega⟩
    · exact q2.elim⟩⟩⟩

/-! ### behind a call: the caller's state -/
theorem Bas.trans {e : Ent U} {F F' : Hp} {w w' : U.W} {H H' : Hp} (B : Bas U e F w H) (C : Bas U ⟨F, H, w⟩ F' w' H') : Bas U e F' w' H' where
  fh := C.fh
  rep := C.rep
  f := B.f.trans C.f
  keep := fun b o h hf => C.keep b o (B.keep b o h hf) fun h2 => (B.foot b h2).elim hf fun z => by rw [h] at z; cases z
  there := fun b o h => by
    obtain ⟨o2, h2⟩ := B.there b o h
    exact C.there b o2 h2
  new := fun b o h h0 => by
    cases q : F b with
    | some o2 => exact B.new b o2 q h0
    | none =>
      have z : H b = none := C.new b o h q
      cases q2 : e.H b with
      | none => rfl
      | some o3 => obtain ⟨o4, h4⟩ := B.there b o3 q2; rw [z] at h4; cases h4
  foot := fun b h => by
    rcases C.foot b h with h2 | h2
    · exact B.foot b h2
    · right
      cases q2 : e.H b with
      | none => rfl
      | some o3 =>
        obtain ⟨o4, h4⟩ := B.there b o3 q2
        have z : H b = none := h2
        rw [z] at h4; cases h4
theorem Own.after {e : Ent U} {F F' : Hp} {w w' : U.W} {H H' : Hp} {l : Addr} {vs : List V} (O : Own U e F w H l vs) (C : Bas U ⟨F, H, w⟩ F' w' H') : Own U e F' w' H' l vs where
  hl := C.keep l _ O.hl O.nf
  fl := by
    cases q : F' l with
    | none => rfl
    | some o =>
      have z : H l = none := C.new l o q O.fl
      rw [O.hl] at z; cases z
  nf := fun h => by
    rcases C.foot l h with h2 | h2
    · exact O.nf h2
    · have z : H l = none := h2
      rw [O.hl] at z; cases z
  el := O.el
theorem Rel.after {K : PySem.W.Frag} {e : Ent U} {F F' : Hp} {ρ : Rho} {w w' : U.W} {σ : St} {H H' : Hp} (R : Rel U K e F ρ w σ H) (C : Bas U ⟨F, H, w⟩ F' w' H') : Rel U K e F' ρ w' σ H' :=
  ⟨R.bas.trans C, fun i x h => by
    obtain ⟨v, h1, h2⟩ := R.slot i x h
    exact ⟨v, h1, Din.mono C.f _ _ h2⟩, fun i xs h => by
    obtain ⟨l, vs, h1, O, h3⟩ := R.own i xs h
    exact ⟨l, vs, h1, O.after C, DinL.mono C.f _ _ h3⟩, R.inj, R.len⟩

/-! ### comprehensions -/
def hideS : Option Slot → Option Slot
  | some (.own _) => none
  | s => s
/-- the slots as a comprehension's block sees them: its own names forgotten, our lists out of reach -/
def inR (ρ : Rho) (vs : List Nat) : Rho := match vs with
  | [] => ρ.map hideS
  | v :: vs => (inR ρ vs).set v none
theorem inR_length (ρ : Rho) : ∀ vs : List Nat, (inR ρ vs).length = ρ.length
  | [] => by simp [inR]
  | v :: vs => by unfold inR; rw [List.length_set, inR_length ρ vs]
theorem inR_get {ρ : Rho} {i : Nat} {s : Slot} : ∀ {vs : List Nat}, (inR ρ vs)[i]? = some (some s) → ρ[i]? = some (some s) ∧ i ∉ vs ∧ ∃ x, s = .d x
  | [], h => by
    unfold inR at h
    rw [List.getElem?_map] at h
    cases q : ρ[i]? with
    | none => rw [q] at h; cases h
    | some t =>
      rw [q] at h
      cases t with
      | none => cases h
      | some t =>
        cases t with
        | d x => cases h; exact ⟨rfl, by simp, x, rfl⟩
        | own _ => cases h
  | v :: vs, h => by
    unfold inR at h
    by_cases hi : v = i
    · subst hi
      by_cases hv : v < (inR ρ vs).length
      · rw [List.getElem?_set_self hv] at h; cases h
      · rw [List.getElem?_eq_none (by simpa using hv)] at h; cases h
    · rw [List.getElem?_set_ne hi] at h
      obtain ⟨h1, h2, h3⟩ := inR_get h
      exact ⟨h1, by simp only [List.mem_cons, not_or]; exact ⟨fun e => hi e.symm, h2⟩, h3⟩
theorem wipe_get {σ : St} {i : Nat} : ∀ {vs : List Nat}, i ∉ vs → (wipe σ vs)[i]? = σ[i]?
  | [], _ => rfl
  | v :: vs, h => by
    unfold wipe
    rw [List.getElem?_set_ne (fun e : v = i => h (by rw [e]; exact List.mem_cons_self ..)), wipe_get fun z => h (List.mem_cons_of_mem _ z)]
theorem Rel.inner {K : PySem.W.Frag} {e : Ent U} {F F' : Hp} {ρ : Rho} {w w' : U.W} {σ : St} {H H' : Hp} (R : Rel U K e F ρ w σ H) (C : Bas U ⟨F, H, w⟩ F' w' H') (vs : List Nat) : Rel U K ⟨F', H', w'⟩ F' (inR ρ vs) w' (wipe σ vs) H' :=
  ⟨Bas.start C.fh C.rep, fun i x h => by
    obtain ⟨h1, h2, _⟩ := inR_get h
    obtain ⟨v, g1, g2⟩ := R.slot i x h1
    exact ⟨v, by rw [wipe_get h2]; exact g1, Din.mono C.f _ _ g2⟩, fun i xs h => (by
    obtain ⟨_, _, x, z⟩ := inR_get h
    exact nomatch z), fun i j xs ys l h => (by
    obtain ⟨_, _, x, z⟩ := inR_get h
    exact nomatch z), by rw [inR_length, wipe_length]; exact R.len⟩
structure DTs (X : Cx) (U : Wd) (ifs : List Expr) (t : TDT U) : Prop where
  run : ∀ e, PTs X ifs (upT U X.K e t)
theorem _root_.L2.PTs.weak {ifs : List Expr} {t t' : TT} (h : PTs X ifs t) (i : ∀ σ H Q, t' σ H Q → t σ H Q) : PTs X ifs t' := ⟨fun pins s σ H Q I q => h.run pins s σ H Q I (i σ H Q q)⟩
def dYes : TDT U := fun _ w Q => Q true w
theorem dts_nil : DTs X U [] dYes := ⟨fun e => pts_nil.weak fun σ H Q ⟨F, ρ, w, Q', R, q, k⟩ => k true F w H q R (Same.refl _)⟩
theorem dts_one {t : TDT U} (h : DT X U c t) : DTs X U [c] t := ⟨fun e => pts_one (h.run e)⟩
def goC (g : TDG U) (tt : TDT U) (te : TD U) (ρ : Rho) : List Dt → List Dt → U.W → (List Dt → U.W → Prop) → Prop
  | [], acc, w, Q => Q acc w
  | d :: ds, acc, w, Q => g d ρ w fun ρ1 w1 => tt ρ1 w1 fun k w2 => if k = true then te ρ1 w2 fun x w3 => acc.length < sizeLine ∧ goC g tt te ρ ds (acc ++ [x]) w3 Q else goC g tt te ρ ds acc w2 Q
def dComp (ti : TDL U) (g : TDG U) (tt : TDT U) (te : TD U) (vs : List Nat) : TDL U := fun ρ w Q => ti ρ w fun ds w1 => goC g tt te (inR ρ vs) ds [] w1 Q
def upGx (U : Wd) (K : PySem.W.Frag) (js : List Nat) (t : TDG U) : TG := fun v σ H Q => ∃ e, upG U K e js t v σ H Q
def upTx (U : Wd) (K : PySem.W.Frag) (t : TDT U) : TT := fun σ H Q => ∃ e, upT U K e t σ H Q
def upx (U : Wd) (K : PySem.W.Frag) (t : TD U) : TE := fun σ H Q => ∃ e, up U K e t σ H Q
theorem DG.x {tg : Expr} {js : List Nat} {g : TDG U} (h : DG X U tg js g) : PG X tg (upGx U X.K js g) := ⟨fun pins s σ H v u Q I r ⟨e, q⟩ => (h.run e).run pins s σ H v u Q I r q⟩
theorem DTs.x {ifs : List Expr} {t : TDT U} (h : DTs X U ifs t) : PTs X ifs (upTx U X.K t) := ⟨fun pins s σ H Q I ⟨e, q⟩ => (h.run e).run pins s σ H Q I q⟩
theorem DE.x {t : TD U} (h : DE X U ex t) : PE X ex (upx U X.K t) := ⟨fun pins s σ H Q I ⟨e, q⟩ => (h.run e).run pins s σ H Q I q⟩
theorem up_comp {K : PySem.W.Frag} {e : Ent U} {js : List Nat} {ti : TDL U} {g : TDG U} {tt : TDT U} {te : TD U} {vs : List Nat} (hjs : ∀ j ∈ js, j ∈ vs) {σ : St} {H : Hp} {Q : VK} (h : upL U K e (dComp ti g tt te vs) σ H Q) :
    upI U K e ti σ H fun J H1 => ∀ D, H1 D = none → ∃ W : Nat → Nat → Hp → Prop, (∃ m, W 0 m (upd H1 D (.lst []))) ∧ ∀ i m H, W i m H →
      (J.stop i H ∧ Q (.ref D) H) ∨ (J.go i H ∧ ∃ Nx : Hp → Prop, (∀ H', Nx H' → ∃ m', m' < m ∧ W (i + 1) m' H') ∧ ∀ x H', J.yld i H x H' → upGx U K js g x (wipe σ vs) H' fun σ2 H2 => wipe σ2 vs = wipe σ vs ∧ upTx U K tt σ2 H2 fun b H3 =>
        if b = true then upx U K te σ2 H3 fun y H4 => ∃ acc, H4 D = some (.lst acc) ∧ acc.length < sizeLine ∧ Nx (upd H4 D (.lst (acc ++ [y]))) else Nx H3) := by
  obtain ⟨F, ρ, w, Q', R, q, k⟩ := h
  refine ⟨F, ρ, w, _, R, q, fun ds F1 w1 H1 J q1 R1 s1 Wk D hD => ?_⟩
  obtain ⟨B1, fp, nf, ep⟩ := R1.bas.mine hD (.lst [])
  have C0 : Bas U ⟨F1, H1, w1⟩ F1 w1 (upd H1 D (.lst [])) := ((Bas.start R1.bas.fh R1.bas.rep).mine hD (.lst [])).1
  -- behind i turns
  let I : Nat → Hp → Prop := fun i H' => ∃ F' w' acc vs', Bas U ⟨F1, H1, w1⟩ F' w' H' ∧ Own U ⟨F1, H1, w1⟩ F' w' H' D vs' ∧ DinL K F' acc vs' ∧ goC g tt te (inR ρ vs) (ds.drop i) acc w' Q'
  refine ⟨fun i m H' => m = ds.length - i ∧ i ≤ ds.length ∧ I i H', ⟨ds.length, by simp, Nat.zero_le _, F1, w1, [], [], C0, ⟨upd_same, fp, nf, hD⟩, rfl, q1⟩, ?_⟩
  rintro i m H' ⟨rfl, hi, F', w', acc, vs', C, O, d, go⟩
  by_cases hlt : i < ds.length
  · right
    have Rin := R1.inner C vs
    refine ⟨Wk.go Rin C.f hlt, I (i + 1), fun H2 p => ⟨ds.length - (i + 1), by omega, rfl, hlt, p⟩, fun x H2 hy => ?_⟩
    obtain ⟨F2, R2, s2, d2, kp⟩ := Wk.yld Rin C.f (List.getElem?_eq_getElem hlt) hy
    rw [List.drop_eq_getElem_cons hlt] at go
    refine ⟨⟨F', H', w'⟩, F2, inR ρ vs, w', ds[i], _, R2, d2, go, fun ρ3 w3 σ3 F3 H3 q3 R3 s3 g3 => ⟨?_, ⟨F', H', w'⟩, F3, ρ3, w3, _, R3, q3, fun b F4 w4 H4 q4 R4 s4 => ?_⟩⟩
    · rw [g3 vs hjs]
      have ww : ∀ (us : List Nat) (τ : St), (∀ j ∈ us, ∀ (v : V), τ[j]? ≠ some (some v)) → True := fun _ _ _ => trivial
      have idem : ∀ (ws us : List Nat) (τ : St), (∀ j ∈ us, j ∈ ws) → wipe (wipe τ ws) us = wipe τ ws := by
        intro ws us τ
        induction us with
        | nil => intro _; rfl
        | cons y ys ih =>
          intro hs
          show (wipe (wipe τ ws) ys).set y none = wipe τ ws
          rw [ih fun j hj => hs j (List.mem_cons_of_mem _ hj)]
          have hy : y ∈ ws := hs y (List.mem_cons_self ..)
          have key : ∀ (zs : List Nat) (τ : St), y ∈ zs → (wipe τ zs).set y none = wipe τ zs := by
            intro zs τ hz
            apply List.ext_getElem?
            intro n
            by_cases hn : y = n
            · subst hn
              by_cases hl : y < (wipe τ zs).length
              · rw [List.getElem?_set_self hl]
                have : (wipe τ zs)[y]? = some none := by
                  cases qq : (wipe τ zs)[y]? with
                  | none => rw [List.getElem?_eq_none_iff] at qq; omega
                  | some o =>
                    cases o with
                    | none => rfl
                    | some v => exact absurd hz (wipe_some qq).2
                exact this.symm
              · rw [List.getElem?_eq_none (by simpa using hl), List.getElem?_eq_none (by simpa using hl)]
            · rw [List.getElem?_set_ne hn]
          exact key ws τ hy
      exact idem vs vs σ fun _ h => h
    · cases b with
      | true =>
        rw [if_pos rfl] at q4 ⊢
        refine ⟨⟨F', H', w'⟩, F4, ρ3, w4, _, R4, q4, fun y v5 F5 w5 H5 ⟨hz, q5⟩ R5 s5 d5 => ?_⟩
        have C5 : Bas U ⟨F', H', w'⟩ F5 w5 H5 := R5.bas
        have O5 := O.after C5
        refine ⟨vs', O5.hl, by rw [d.length]; exact hz, ?_⟩
        obtain ⟨B6, O6⟩ := (C.trans C5).write O5 (vs' ++ [v5])
        refine ⟨F5, w5, acc ++ [y], vs' ++ [v5], B6, O6, (DinL.mono C5.f _ _ d).append ⟨v5, [], rfl, d5, rfl⟩, q5⟩
      | false =>
        rw [if_neg Bool.false_ne_true] at q4 ⊢
        have C4 : Bas U ⟨F', H', w'⟩ F4 w4 H4 := R4.bas
        exact ⟨F4, w4, acc, vs', C.trans C4, O.after C4, DinL.mono C4.f _ _ d, q4⟩
  · left
    have e1 : i = ds.length := by omega
    subst e1
    refine ⟨Wk.stop (R1.inner C vs) C.f (Nat.le_refl _), ?_⟩
    rw [List.drop_length] at go
    have R2 := R1.after C
    refine k acc D vs' F' w' H' go R2 (s1.trans C.f) ⟨⟨O.hl, O.fl, O.nf, ep⟩, fun j xs hj hs => ?_⟩ d
    obtain ⟨l, us, h1, O2, _⟩ := R1.own j xs hj
    rw [hs] at h1; cases h1
    have z := O2.hl
    rw [hD] at z; cases z

theorem df_comp {elt tg iter : Expr} {ifs : List Expr} {scope : Scope} {own : List (Str × Nat)} {js : List Nat} {ti : TDL U} {g : TDG U} {tt : TDT U} {te : TD U} (hc : X.calm = true) (hN : X.N.Nodup) (hi : DI X U tg iter ti) (ok : BlkOk X.N X.env.scope scope own)
    (hg : ∀ (s : Shared) (H : Hp) (C : Addr) (cl : List (Str × Addr)) (fp : List Addr), DG (X.blk s H scope (compEnvC scope cl C X.env) fp) U tg js g) (ht : ∀ (s : Shared) (H : Hp) (C : Addr) (cl : List (Str × Addr)) (fp : List Addr), DTs (X.blk s H scope (compEnvC scope cl C X.env) fp) U ifs tt)
    (he : ∀ (s : Shared) (H : Hp) (C : Addr) (cl : List (Str × Addr)) (fp : List Addr), DE (X.blk s H scope (compEnvC scope cl C X.env) fp) U elt te) (hjs : ∀ j ∈ js, j ∈ own.map (·.2) := by decide) (hs : ∀ x, foldedSetIterable iter X.env x = pure x := by intro _; rfl) :
    DF X U (.ListComp elt [⟨tg, iter, ifs, 0⟩] scope pos) (dComp ti g tt te (own.map (·.2))) :=
  ⟨fun e => (pe_lc (g := upGx U X.K js g) (tt := upTx U X.K tt) (te := upx U X.K te) hc hN (hi.run e) ok (fun s H C cl fp => (hg s H C cl fp).x) (fun s H C cl fp => (ht s H C cl fp).x) (fun s H C cl fp => (he s H C cl fp).x) hs).weak fun σ H Q h => up_comp hjs h⟩
end
end DL

set_option Elab.async false
set_option linter.all false
set_option maxRecDepth 100000
set_option maxHeartbeats 4000000
namespace DL
open PySem L2
structure DEnds (U : Wd) where
  nx : Rho → U.W → Prop
  rt : Dt → U.W → Prop
  bk : Rho → U.W → Prop := fun _ _ => False
  ct : Rho → U.W → Prop := fun _ _ => False
abbrev TDS (U : Wd) := DEnds U → Rho → U.W → Prop
structure EndsOk (U : Wd) (K : PySem.W.Frag) (e : Ent U) (F : Hp) (De : DEnds U) (D : Ends) : Prop where
  nx : ∀ F' ρ' w' σ' H', De.nx ρ' w' → Rel U K e F' ρ' w' σ' H' → Same F F' → D.nx σ' H'
  rt : ∀ x v F' w' H', De.rt x w' → Bas U e F' w' H' → Same F F' → Din K F' x v → D.rt v H'
  bk : ∀ F' ρ' w' σ' H', De.bk ρ' w' → Rel U K e F' ρ' w' σ' H' → Same F F' → D.bk σ' H'
  ct : ∀ F' ρ' w' σ' H', De.ct ρ' w' → Rel U K e F' ρ' w' σ' H' → Same F F' → D.ct σ' H'
def upS (U : Wd) (K : PySem.W.Frag) (e : Ent U) (t : TDS U) : TS := fun D σ H => ∃ F ρ w De, Rel U K e F ρ w σ H ∧ t De ρ w ∧ EndsOk U K e F De D
structure DS (X : Cx) (U : Wd) (st : Stmt) (t : TDS U) : Prop where
  run : ∀ e, PS X st (upS U X.K e t)
structure DSs (X : Cx) (U : Wd) (sts : List Stmt) (t : TDS U) : Prop where
  run : ∀ e, PSs X sts (upS U X.K e t)
section
variable {X : Cx} {U : Wd} {a b c ex : Expr} {rest : List Stmt} {st : Stmt} {ta tb tc : TD U} {ka kb : TDT U} {t u : TDS U} {pos p : Pos}
theorem _root_.L2.PS.weak {t t' : TS} (h : PS X st t) (i : ∀ D σ H, t' D σ H → t D σ H) : PS X st t' := ⟨fun pins s σ H D I q => h.run pins s σ H D I (i D σ H q)⟩
theorem _root_.L2.PSs.weak {t t' : TS} (h : PSs X rest t) (i : ∀ D σ H, t' D σ H → t D σ H) : PSs X rest t' := ⟨fun pins s σ H D I q => h.run pins s σ H D I (i D σ H q)⟩
theorem EndsOk.mono {K : PySem.W.Frag} {e : Ent U} {F F' : Hp} {De : DEnds U} {D : Ends} (E : EndsOk U K e F De D) (s : Same F F') : EndsOk U K e F' De D :=
  ⟨fun F1 ρ w σ H q R s1 => E.nx F1 ρ w σ H q R (s.trans s1), fun x v F1 w H q B s1 d => E.rt x v F1 w H q B (s.trans s1) d, fun F1 ρ w σ H q R s1 => E.bk F1 ρ w σ H q R (s.trans s1), fun F1 ρ w σ H q R s1 => E.ct F1 ρ w σ H q R (s.trans s1)⟩
def dNext : TDS U := fun D ρ w => D.nx ρ w
def dSeq (t u : TDS U) : TDS U := fun D ρ w => t { D with nx := u D } ρ w
theorem dss_nil : DSs X U [] dNext := ⟨fun e => pss_nil.weak fun D σ H ⟨F, ρ, w, De, R, q, E⟩ => E.nx F ρ w σ H q R (Same.refl _)⟩
theorem dss_cons (h1 : DS X U st t) (h2 : DSs X U rest u) : DSs X U (st :: rest) (dSeq t u) := ⟨fun e => (pss_cons (h1.run e) (h2.run e)).weak fun D σ H ⟨F, ρ, w, De, R, q, E⟩ =>
  ⟨F, ρ, w, _, R, q, ⟨fun F1 ρ1 w1 σ1 H1 q1 R1 s1 => ⟨F1, ρ1, w1, De, R1, q1, E.mono s1⟩, E.rt, E.bk, E.ct⟩⟩⟩
theorem dss_one (h1 : DS X U st t) : DSs X U [st] t := ⟨fun e => pss_one (h1.run e)⟩
/-- a list of our own in slot i is frozen (no code) -/
def dIce (i : Nat) (t : TDS U) : TDS U := fun D ρ w => match ρ[i]? with
  | some (some (.own xs)) => t D (ρ.set i (some (.d (.lst xs)))) w
  | _ => False
theorem dss_ice (i : Nat) (h : DSs X U rest t) : DSs X U rest (dIce i t) := ⟨fun e => (h.run e).weak fun D σ H ⟨F, ρ, w, De, R, q, E⟩ => by
  unfold dIce at q
  split at q
  · rename_i xs hi
    obtain ⟨F', R', s'⟩ := R.ice hi
    exact ⟨F', _, w, De, R', q, E.mono s'⟩
  · exact q.elim⟩
def dPass : TDS U := fun D ρ w => D.nx ρ w
theorem ds_pass : DS X U (.Pass pos) dPass := ⟨fun e => ps_pass.weak fun D σ H ⟨F, ρ, w, De, R, q, E⟩ => E.nx F ρ w σ H q R (Same.refl _)⟩
def dBrk : TDS U := fun D ρ w => D.bk ρ w
theorem ds_break : DS X U (.Break pos) dBrk := ⟨fun e => ps_break.weak fun D σ H ⟨F, ρ, w, De, R, q, E⟩ => E.bk F ρ w σ H q R (Same.refl _)⟩
def dCnt : TDS U := fun D ρ w => D.ct ρ w
theorem ds_continue : DS X U (.Continue pos) dCnt := ⟨fun e => ps_continue.weak fun D σ H ⟨F, ρ, w, De, R, q, E⟩ => E.ct F ρ w σ H q R (Same.refl _)⟩
def dExp (ta : TD U) : TDS U := fun D ρ w => ta ρ w fun _ w1 => D.nx ρ w1
theorem ds_expr (h : DE X U ex ta) (hs : swapsWith ex none pos.line X.env = pure false := by rfl) : DS X U (.Expr ex pos) (dExp ta) := ⟨fun e => (ps_expr (h.run e) hs).weak fun D σ H ⟨F, ρ, w, De, R, q, E⟩ =>
  ⟨F, ρ, w, _, R, q, fun x v F1 w1 H1 q1 R1 s1 d1 => E.nx F1 ρ w1 σ H1 q1 R1 s1⟩⟩
def dRet (ta : TD U) : TDS U := fun D ρ w => ta ρ w D.rt
theorem ds_ret (h : DE X U ex ta) : DS X U (.Return (some ex) pos) (dRet ta) := ⟨fun e => (ps_ret (h.run e)).weak fun D σ H ⟨F, ρ, w, De, R, q, E⟩ =>
  ⟨F, ρ, w, _, R, q, fun x v F1 w1 H1 q1 R1 s1 d1 => E.rt x v F1 w1 H1 q1 R1.bas s1 d1⟩⟩
def dRetN : TDS U := fun D _ w => D.rt .non w
theorem ds_retN : DS X U (.Return none pos) dRetN := ⟨fun e => ps_retN.weak fun D σ H ⟨F, ρ, w, De, R, q, E⟩ => E.rt .non .non F w H q R.bas (Same.refl _) rfl⟩
def dIfS (c : TDT U) (t u : TDS U) : TDS U := fun D ρ w => c ρ w fun k w1 => if k = true then t D ρ w1 else u D ρ w1
theorem ds_if {p q : List Stmt} (hc : DT X U c ka) (ha : DSs X U p t) (hb : DSs X U q u) : DS X U (.If c p q pos) (dIfS ka t u) := ⟨fun e => (ps_if (hc.run e) (ha.run e) (hb.run e)).weak fun D σ H ⟨F, ρ, w, De, R, q, E⟩ =>
  ⟨F, ρ, w, _, R, q, fun k F1 w1 H1 q1 R1 s1 => by
    cases k with
    | true => exact iteT ⟨F1, ρ, w1, De, R1, q1, E.mono s1⟩
    | false => exact iteF ⟨F1, ρ, w1, De, R1, q1, E.mono s1⟩⟩⟩
/-- x = e -/
def dSet (i : Nat) (ta : TD U) : TDS U := fun D ρ w => ta ρ w fun x w1 => D.nx (ρ.set i (some (.d x))) w1
theorem ds_set {i : Nat} {x : Str} {pos' : Pos} (hN : X.N.Nodup) (hi : X.N[i]? = some x) (hx : Loc X.env.scope x) (he : DE X U ex ta) (hs : swapsWith ex (some (.Name x pos')) pos.line X.env = pure false := by rfl)
    (hf : X.fn x = true ∨ X.env.scope.names.lookup x = some .local := by first | exact .inl rfl | exact .inr rfl | assumption) : DS X U (.Assign [.Name x pos'] ex pos) (dSet i ta) :=
  ⟨fun e => (ps_set hN hi hx (he.run e) hs hf).weak fun D σ H ⟨F, ρ, w, De, R, q, E⟩ => ⟨F, ρ, w, _, R, q, fun x v F1 w1 H1 q1 R1 s1 d1 => E.nx F1 _ w1 _ H1 q1 (R1.set d1 i) s1⟩⟩
/-- x = a new list: our own -/
def dSetO (i : Nat) (ta : TDL U) : TDS U := fun D ρ w => ta ρ w fun xs w1 => D.nx (ρ.set i (some (.own xs))) w1
theorem ds_setO {i : Nat} {x : Str} {pos' : Pos} {ta : TDL U} (hN : X.N.Nodup) (hi : X.N[i]? = some x) (hx : Loc X.env.scope x) (he : DF X U ex ta) (hs : swapsWith ex (some (.Name x pos')) pos.line X.env = pure false := by rfl)
    (hf : X.fn x = true ∨ X.env.scope.names.lookup x = some .local := by first | exact .inl rfl | exact .inr rfl | assumption) : DS X U (.Assign [.Name x pos'] ex pos) (dSetO i ta) :=
  ⟨fun e => (ps_set hN hi hx (he.run e) hs hf).weak fun D σ H ⟨F, ρ, w, De, R, q, E⟩ => ⟨F, ρ, w, _, R, q, fun xs l vs F1 w1 H1 q1 R1 s1 f1 d1 => E.nx F1 _ w1 _ H1 q1 (R1.setOwn f1 d1 i) s1⟩⟩
/-- x = [..] by a comprehension -/
theorem ds_setC {i : Nat} {y : Str} {py spos : Pos} {elt tg iter : Expr} {ifs : List Expr} {scope : Scope} {own : List (Str × Nat)} {js : List Nat} {ti : TDL U} {g : TDG U} {tt : TDT U} {te : TD U} (hc : X.calm = true) (hN : X.N.Nodup) (hy : X.N[i]? = some y) (hyl : X.env.scope.names.lookup y = some .local)
    (hsw : swapsWith (.ListComp elt [⟨tg, iter, ifs, 0⟩] scope pos) (some (.Name y py)) spos.line X.env = pure true) (hi : DI X U tg iter ti) (ok : BlkOk X.N X.env.scope scope own)
    (hg : ∀ (s : Shared) (H : Hp) (C : Addr) (cl : List (Str × Addr)) (fp : List Addr), DG (X.blk s H scope (compEnvC scope cl C X.env) fp) U tg js g) (ht : ∀ (s : Shared) (H : Hp) (C : Addr) (cl : List (Str × Addr)) (fp : List Addr), DTs (X.blk s H scope (compEnvC scope cl C X.env) fp) U ifs tt)
    (he : ∀ (s : Shared) (H : Hp) (C : Addr) (cl : List (Str × Addr)) (fp : List Addr), DE (X.blk s H scope (compEnvC scope cl C X.env) fp) U elt te) (hjs : ∀ j ∈ js, j ∈ own.map (·.2) := by decide) (hs : ∀ x, foldedSetIterable iter X.env x = pure x := by intro _; rfl) :
    DS X U (.Assign [.Name y py] (.ListComp elt [⟨tg, iter, ifs, 0⟩] scope pos) spos) (dSetO i (dComp ti g tt te (own.map (·.2)))) :=
  ⟨fun e => (ps_setLc (g := upGx U X.K js g) (tt := upTx U X.K tt) (te := upx U X.K te) hc hN hy hyl hsw (hi.run e) ok (fun s H C cl fp => (hg s H C cl fp).x) (fun s H C cl fp => (ht s H C cl fp).x) (fun s H C cl fp => (he s H C cl fp).x) hs).weak
    fun D σ H ⟨F, ρ, w, De, R, q, E⟩ => up_comp (Q := fun x H1 => gName i x σ H1 D.nx) hjs ⟨F, ρ, w, _, R, q, fun xs l vs F1 w1 H1 q1 R1 s1 f1 d1 => E.nx F1 _ w1 _ H1 q1 (R1.setOwn f1 d1 i) s1⟩⟩
/-- a, b = e -/
def dAsg (ta : TD U) (g : TDG U) : TDS U := fun D ρ w => ta ρ w fun x w1 => g x ρ w1 D.nx
theorem ds_asg {tg : Expr} {js : List Nat} {g : TDG U} (he : DE X U ex ta) (hg : DG X U tg js g) (hs : swapsWithSole [tg] ex pos.line X.env = pure false := by rfl) (hw : swappedStores [tg] ex X.env = pure none := by rfl)
    (h1 : (assignEach [tg] X.env).map (·.2) = [assign tg X.env] := by rfl) : DS X U (.Assign [tg] ex pos) (dAsg ta g) :=
  ⟨fun e => (ps_asg (he.run e) (hg.run e) hs hw h1).weak fun D σ H ⟨F, ρ, w, De, R, q, E⟩ => ⟨F, ρ, w, _, R, q, fun x v F1 w1 H1 q1 R1 s1 d1 =>
    ⟨F1, ρ, w1, x, _, R1, d1, q1, fun ρ2 w2 σ2 F2 H2 q2 R2 s2 _ => E.nx F2 ρ2 w2 σ2 H2 q2 R2 (s1.trans s2)⟩⟩⟩
/-- a, b = x, y -/
def dPar (i j : Nat) (ta : TDL U) : TDS U := fun D ρ w => ta ρ w fun xs w1 => match xs with
  | [x, y] => D.nx ((ρ.set i (some (.d x))).set j (some (.d y))) w1
  | _ => False
theorem ds_par {i j : Nat} {x y : Str} {ta : TDL U} {px py pt : Pos} {kt k2 pt2} (hc : X.calm = true) (hN : X.N.Nodup) (hi : X.N[i]? = some x) (hj : X.N[j]? = some y) (hij : i ≠ j)
    (hx : X.env.scope.names.lookup x = some .local) (hy : X.env.scope.names.lookup y = some .local) (ha : DA X U [a, b] ta)
    (hw : swappedStores [.Tuple [.Name x px, .Name y py] kt pt] (.Tuple [a, b] k2 pt2) X.env = pure (some [x, y]) := by rfl)
    (hs : swapsWithSole [.Tuple [.Name x px, .Name y py] kt pt] (.Tuple [a, b] k2 pt2) pos.line X.env = pure false := by rfl) :
    DS X U (.Assign [.Tuple [.Name x px, .Name y py] kt pt] (.Tuple [a, b] k2 pt2) pos) (dPar i j ta) :=
  ⟨fun e => (ps_par hc hN hi hj hij hx hy (ha.run e) hw hs).weak fun D σ H ⟨F, ρ, w, De, R, q, E⟩ => ⟨F, ρ, w, _, R, q, fun xs vs F1 w1 H1 q1 R1 s1 d1 => by
    split at q1
    · rename_i x y
      obtain ⟨v, u, e1, d2, d3⟩ := d1.two
      exact ⟨v, u, e1, E.nx F1 _ w1 _ H1 q1 ((R1.set d2 i).set d3 j) s1⟩
    · exact q1.elim⟩⟩
/-- for -/
def goF (g : TDG U) (tb : TDS U) (D : DEnds U) : List Dt → Rho → U.W → Prop
  | [], ρ, w => D.nx ρ w
  | d :: ds, ρ, w => g d ρ w fun ρ1 w1 => tb { D with nx := goF g tb D ds, ct := goF g tb D ds, bk := D.nx } ρ1 w1
def dFor (ti : TDL U) (g : TDG U) (tb : TDS U) : TDS U := fun D ρ w => ti ρ w fun ds w1 => goF g tb D ds ρ w1
theorem ds_for {tg iter : Expr} {body : List Stmt} {js : List Nat} {ti : TDL U} {g : TDG U} {tb : TDS U} (hp : PassesOwn (model X.prog X.w) X.A X.env X.xe) (hc : X.calm = true) (hi : DI X U tg iter ti) (hg : DG X U tg js g) (hb : DSs X U body tb)
    (hs : ∀ x, foldedSetIterable iter X.env x = pure x := by intro _; rfl) : DS X U (.For tg iter body [] pos) (dFor ti g tb) :=
  ⟨fun e => (ps_for hp hc (hi.run e) (hg.run e) (hb.run e) hs).weak fun D σ H ⟨F, ρ, w, De, R, q, E⟩ => ⟨F, ρ, w, _, R, q, fun ds F1 w1 H1 J q1 R1 s1 Wk => by
    let I : Nat → St → Hp → Prop := fun i σ' H' => ∃ F' ρ' w', Rel U X.K e F' ρ' w' σ' H' ∧ Same F1 F' ∧ goF g tb De (ds.drop i) ρ' w'
    refine ⟨fun i m σ' H' => m = ds.length - i ∧ i ≤ ds.length ∧ I i σ' H', ⟨ds.length, by simp, Nat.zero_le _, F1, ρ, w1, R1, Same.refl _, q1⟩, ?_⟩
    rintro i m σ' H' ⟨rfl, hi, F', ρ', w', R', s', go⟩
    by_cases hlt : i < ds.length
    · right
      refine ⟨Wk.go R' s' hlt, I (i + 1), fun σ2 H2 p => ⟨ds.length - (i + 1), by omega, rfl, hlt, p⟩, fun x H2 hy => ?_⟩
      obtain ⟨F2, R2, s2, d2, _⟩ := Wk.yld R' s' (List.getElem?_eq_getElem hlt) hy
      rw [List.drop_eq_getElem_cons hlt] at go
      refine ⟨F2, ρ', w', ds[i], _, R2, d2, go, fun ρ3 w3 σ3 F3 H3 q3 R3 s3 _ => ⟨F3, ρ3, w3, _, R3, q3, ?_⟩⟩
      have ss : Same F1 F3 := s'.trans (s2.trans s3)
      exact ⟨fun F4 ρ4 w4 σ4 H4 q4 R4 s4 => ⟨F4, ρ4, w4, R4, ss.trans s4, q4⟩, fun x v F4 w4 H4 q4 B4 s4 d4 => E.rt x v F4 w4 H4 q4 B4 (s1.trans (ss.trans s4)) d4,
        fun F4 ρ4 w4 σ4 H4 q4 R4 s4 => E.nx F4 ρ4 w4 σ4 H4 q4 R4 (s1.trans (ss.trans s4)), fun F4 ρ4 w4 σ4 H4 q4 R4 s4 => ⟨F4, ρ4, w4, R4, ss.trans s4, q4⟩⟩
    · left
      have e1 : i = ds.length := by omega
      subst e1
      rw [List.drop_length] at go
      exact ⟨Wk.stop R' s' (Nat.le_refl _), E.nx F' ρ' w' σ' H' go R' (s1.trans s')⟩⟩⟩
/-- while: n turns at most -/
def goW (c : TDT U) (tb : TDS U) (D : DEnds U) : Nat → Rho → U.W → Prop
  | 0, _, _ => False
  | n + 1, ρ, w => c ρ w fun k w1 => if k = true then tb { D with nx := goW c tb D n, ct := goW c tb D n, bk := D.nx } ρ w1 else D.nx ρ w1
def dWhile (c : TDT U) (tb : TDS U) : TDS U := fun D ρ w => ∃ n, goW c tb D n ρ w
theorem ds_while {body : List Stmt} {tb : TDS U} (hp : PassesOwn (model X.prog X.w) X.A X.env X.xe) (hc : DT X U c ka) (hb : DSs X U body tb) : DS X U (.While c body [] pos) (dWhile ka tb) :=
  ⟨fun e => (ps_while hp (hc.run e) (hb.run e)).weak fun D σ H ⟨F, ρ, w, De, R, ⟨n, q⟩, E⟩ => by
    refine ⟨fun m σ' H' => ∃ F' ρ' w', Rel U X.K e F' ρ' w' σ' H' ∧ Same F F' ∧ goW ka tb De m ρ' w', ⟨n, F, ρ, w, R, Same.refl _, q⟩, ?_⟩
    rintro m σ' H' ⟨F', ρ', w', R', s', go⟩
    cases m with
    | zero => exact go.elim
    | succ m =>
      refine ⟨F', ρ', w', _, R', go, fun k F1 w1 H1 q1 R1 s1 => ?_⟩
      cases k with
      | true =>
        rw [if_pos rfl] at q1 ⊢
        refine ⟨fun σ2 H2 => ∃ F2 ρ2 w2, Rel U X.K e F2 ρ2 w2 σ2 H2 ∧ Same F F2 ∧ goW ka tb De m ρ2 w2, fun σ2 H2 p => ⟨m, Nat.lt_succ_self m, p⟩, F1, ρ', w1, _, R1, q1, ?_⟩
        have ss : Same F F1 := s'.trans s1
        exact ⟨fun F4 ρ4 w4 σ4 H4 q4 R4 s4 => ⟨F4, ρ4, w4, R4, ss.trans s4, q4⟩, fun x v F4 w4 H4 q4 B4 s4 d4 => E.rt x v F4 w4 H4 q4 B4 (ss.trans s4) d4,
          fun F4 ρ4 w4 σ4 H4 q4 R4 s4 => E.nx F4 ρ4 w4 σ4 H4 q4 R4 (ss.trans s4), fun F4 ρ4 w4 σ4 H4 q4 R4 s4 => ⟨F4, ρ4, w4, R4, ss.trans s4, q4⟩⟩
      | false =>
        rw [if_neg Bool.false_ne_true] at q1 ⊢
        exact E.nx F1 ρ' w1 σ' H1 q1 R1 (s'.trans s1)⟩

/-! ### our own lists changed -/
def dApp (i : Nat) (ta : TD U) : TDS U := fun D ρ w => match ρ[i]? with
  | some (some (.own xs)) => ta ρ w fun x w1 => xs.length < sizeLine ∧ D.nx (ρ.set i (some (.own (xs ++ [x])))) w1
  | _ => False
theorem own_at {K : PySem.W.Frag} {e : Ent U} {F : Hp} {ρ : Rho} {w : U.W} {σ : St} {H : Hp} (R : Rel U K e F ρ w σ H) {i : Nat} {xs : List Dt} (hi : ρ[i]? = some (some (.own xs))) : ∃ l vs, σ[i]? = some (some (.ref l)) ∧ H l = some (.lst vs) ∧ Own U e F w H l vs ∧ DinL K F xs vs := by
  obtain ⟨l, vs, h1, O, d⟩ := R.own i xs hi
  exact ⟨l, vs, h1, O.hl, O, d⟩
theorem ds_append (i : Nat) {x : Str} {px pa pc : Pos} (hN : X.N[i]? = some x) (hv : Vis X.env.scope x) (he : DE X U ex ta)
    (hd : (x == ("__debug__" : Str)) = false := by decide) (hcd : (x == ("__classdict__" : Str)) = false := by decide) (hst : starEach [ex] X.env = [(false, eval ex X.env)] := by rfl)
    (hbase : attributeBase (.Name x px) "append" X.env (eval (.Name x px) X.env) = eval (.Name x px) X.env := by rfl)
    (hfew : ((backTo pc (starEach [ex] X.env)).all (fun x => !x.1) && (backToKw pc (keywordEach [] X.env)).all (fun x => x.1.isSome) && decide ([ex].length + ([] : List Keyword).length + (if ([] : List Keyword).isEmpty then 0 else 1) < 30)) = true := by rfl)
    (hline : (pa.endLine == pc.line) = true := by rfl) (hsw : swapsWith (.Call (.Attribute (.Name x px) "append" pa) [ex] [] pc) none pos.line X.env = pure false := by rfl) :
    DS X U (.Expr (.Call (.Attribute (.Name x px) "append" pa) [ex] [] pc) pos) (dApp i ta) :=
  ⟨fun e => (ps_expr (pe_bm PySem.F.plainAttrs_list PySem.F.slot_list_append PySem.F.type_list_append mt_append (pe_var hN hv hd hcd) (pa_cons (he.run e) pa_nil hst) hbase hfew hline hst (by rfl)) hsw).weak fun D σ H ⟨F, ρ, w, De, R, q, E⟩ => by
    unfold dApp at q
    split at q
    · rename_i xs hi
      obtain ⟨l, vs, h1, h2, O, d⟩ := own_at R hi
      refine ⟨.ref l, h1, .inl ⟨rfl, vs, SqL.of h2⟩, F, ρ, w, _, R, q, fun y v F1 w1 H1 q1 R1 s1 d1 => ?_⟩
      obtain ⟨l2, vs2, g1, g2, O2, dd⟩ := own_at R1 hi
      rw [h1] at g1; cases g1
      exact ⟨l, vs2, v, rfl, rfl, g2, by rw [dd.length]; exact q1.1, E.nx F1 _ w1 σ _ q1.2 (R1.wr hi h1 O2 (dd.append ⟨v, [], rfl, d1, rfl⟩)) s1⟩
    · exact q.elim⟩
/-- x.pop(k), x.insert(k, e), x[k] = e -/
def dPopAt (i : Nat) (ta : TD U) : TDS U := fun D ρ w => match ρ[i]? with
  | some (some (.own xs)) => ta ρ w fun x w1 => match x with
    | .int k => (0 ≤ k ∧ k < xs.length ∧ k < 2 ^ 63) ∧ D.nx (ρ.set i (some (.own (xs.eraseIdx k.toNat)))) w1
    | _ => False
  | _ => False
theorem ds_popAt (i : Nat) {x : Str} {px pa pc : Pos} (hN : X.N[i]? = some x) (hv : Vis X.env.scope x) (he : DE X U ex ta)
    (hd : (x == ("__debug__" : Str)) = false := by decide) (hcd : (x == ("__classdict__" : Str)) = false := by decide) (hst : starEach [ex] X.env = [(false, eval ex X.env)] := by rfl)
    (hbase : attributeBase (.Name x px) "pop" X.env (eval (.Name x px) X.env) = eval (.Name x px) X.env := by rfl)
    (hfew : ((backTo pc (starEach [ex] X.env)).all (fun x => !x.1) && (backToKw pc (keywordEach [] X.env)).all (fun x => x.1.isSome) && decide ([ex].length + ([] : List Keyword).length + (if ([] : List Keyword).isEmpty then 0 else 1) < 30)) = true := by rfl)
    (hline : (pa.endLine == pc.line) = true := by rfl) (hsw : swapsWith (.Call (.Attribute (.Name x px) "pop" pa) [ex] [] pc) none pos.line X.env = pure false := by rfl) :
    DS X U (.Expr (.Call (.Attribute (.Name x px) "pop" pa) [ex] [] pc) pos) (dPopAt i ta) :=
  ⟨fun e => (ps_expr (pe_bm PySem.F.plainAttrs_list PySem.F.slot_list_pop PySem.F.type_list_pop mt_popAt (pe_var hN hv hd hcd) (pa_cons (he.run e) pa_nil hst) hbase hfew hline hst (by rfl)) hsw).weak fun D σ H ⟨F, ρ, w, De, R, q, E⟩ => by
    unfold dPopAt at q
    split at q
    · rename_i xs hi
      obtain ⟨l, vs, h1, h2, O, d⟩ := own_at R hi
      refine ⟨.ref l, h1, .inl ⟨rfl, vs, SqL.of h2⟩, F, ρ, w, _, R, q, fun y v F1 w1 H1 q1 R1 s1 d1 => ?_⟩
      obtain ⟨l2, vs2, g1, g2, O2, dd⟩ := own_at R1 hi
      rw [h1] at g1; cases g1
      cases y with
      | int k =>
        obtain ⟨⟨k0, k1, k2⟩, q1⟩ := q1
        cases (show v = .int k from d1)
        have hlen := dd.length
        have hk : k.toNat < vs2.length := by omega
        refine ⟨l, vs2, k, k.toNat, vs2[k.toNat], rfl, rfl, g2, by omega, k2, seqIndex_of k0 (by omega), List.getElem?_eq_getElem hk, E.nx F1 _ w1 σ _ q1 (R1.wr hi h1 O2 (dd.erase k.toNat)) s1⟩
      | _ => exact q1.elim
    · exact q.elim⟩
def dInsert (i : Nat) (ta tb : TD U) : TDS U := fun D ρ w => match ρ[i]? with
  | some (some (.own xs)) => ta ρ w fun x w1 => tb ρ w1 fun y w2 => match x with
    | .int k => (xs.length < sizeLine ∧ 0 ≤ k ∧ k < 2 ^ 63) ∧ D.nx (ρ.set i (some (.own (xs.take k.toNat ++ [y] ++ xs.drop k.toNat)))) w2
    | _ => False
  | _ => False
theorem ds_insert (i : Nat) {x : Str} {px pa pc : Pos} (hN : X.N[i]? = some x) (hv : Vis X.env.scope x) (ha : DE X U a ta) (hb : DE X U b tb)
    (hd : (x == ("__debug__" : Str)) = false := by decide) (hcd : (x == ("__classdict__" : Str)) = false := by decide) (hst : starEach [a, b] X.env = (false, eval a X.env) :: starEach [b] X.env := by rfl) (hst2 : starEach [b] X.env = [(false, eval b X.env)] := by rfl)
    (hbase : attributeBase (.Name x px) "insert" X.env (eval (.Name x px) X.env) = eval (.Name x px) X.env := by rfl)
    (hfew : ((backTo pc (starEach [a, b] X.env)).all (fun x => !x.1) && (backToKw pc (keywordEach [] X.env)).all (fun x => x.1.isSome) && decide ([a, b].length + ([] : List Keyword).length + (if ([] : List Keyword).isEmpty then 0 else 1) < 30)) = true := by rfl)
    (hline : (pa.endLine == pc.line) = true := by rfl) (hpl : (backTo pc (starEach [b] X.env)).any (·.1) = false := by rfl) (hsw : swapsWith (.Call (.Attribute (.Name x px) "insert" pa) [a, b] [] pc) none pos.line X.env = pure false := by rfl) :
    DS X U (.Expr (.Call (.Attribute (.Name x px) "insert" pa) [a, b] [] pc) pos) (dInsert i ta tb) :=
  ⟨fun e => (ps_expr (pe_bm PySem.F.plainAttrs_list PySem.F.slot_list_insert PySem.F.type_list_insert mt_insert (pe_var hN hv hd hcd) (pa_cons (ha.run e) (pa_cons (hb.run e) pa_nil hst2) hst) hbase hfew hline hst hpl) hsw).weak fun D σ H ⟨F, ρ, w, De, R, q, E⟩ => by
    unfold dInsert at q
    split at q
    · rename_i xs hi
      obtain ⟨l, vs, h1, h2, O, d⟩ := own_at R hi
      refine ⟨.ref l, h1, .inl ⟨rfl, vs, SqL.of h2⟩, F, ρ, w, _, R, q, fun x v F1 w1 H1 q1 R1 s1 d1 => ⟨F1, ρ, w1, _, R1, q1, fun y u F2 w2 H2 q2 R2 s2 d2 => ?_⟩⟩
      obtain ⟨l2, vs2, g1, g2, O2, dd⟩ := own_at R2 hi
      rw [h1] at g1; cases g1
      cases x with
      | int k =>
        obtain ⟨⟨k0, k1, k2⟩, q2⟩ := q2
        cases (show v = .int k from d1)
        refine ⟨l, vs2, k, u, rfl, rfl, g2, by rw [dd.length]; exact k0, k1, k2, E.nx F2 _ w2 σ _ q2 (R2.wr hi h1 O2 (((dd.take k.toNat).append (show DinL X.K F2 [y] [u] from ⟨u, [], rfl, d2, rfl⟩)).append (dd.drop k.toNat))) (s1.trans s2)⟩
      | _ => exact q2.elim
    · exact q.elim⟩
/-- x[k] = e of our own list in slot i -/
def dPut (i : Nat) (tb te : TD U) : TDS U := fun D ρ w => te ρ w fun y w1 => match ρ[i]? with
  | some (some (.own xs)) => tb ρ w1 fun x w2 => match x with
    | .int k => ∃ j, ixN xs.length k = some j ∧ D.nx (ρ.set i (some (.own (xs.set j y)))) w2
    | _ => False
  | _ => False
theorem ds_put (i : Nat) {x : Str} {px ps : Pos} (hN : X.N[i]? = some x) (hv : Vis X.env.scope x) (hb : DE X U b tb) (he : DE X U ex ta)
    (hd : (x == ("__debug__" : Str)) = false := by decide) (hcd : (x == ("__classdict__" : Str)) = false := by decide)
    (hasn : ∀ v, assign (.Subscript (.Name x px) b ps) X.env v = (do
      let ov ← holding [v] (eval (.Name x px) X.env)
      let iv ← holding [v, ov] (eval b X.env)
      standAt ps
      holding [v, ov, iv] (setItem ov iv v)
      release [v, ov, iv] []) := by intro _; rfl)
    (hs : swapsWithSole [.Subscript (.Name x px) b ps] ex pos.line X.env = pure false := by rfl) (hw : swappedStores [.Subscript (.Name x px) b ps] ex X.env = pure none := by rfl)
    (h1 : (assignEach [.Subscript (.Name x px) b ps] X.env).map (·.2) = [assign (.Subscript (.Name x px) b ps) X.env] := by rfl) :
    DS X U (.Assign [.Subscript (.Name x px) b ps] ex pos) (dPut i tb ta) :=
  ⟨fun e => (ps_asg (he.run e) (pg_sub (pe_var hN hv hd hcd) (hb.run e) set_list hasn) hs hw h1).weak fun D σ H ⟨F, ρ, w, De, R, q, E⟩ => ⟨F, ρ, w, _, R, q, fun y v F1 w1 H1 q1 R1 s1 d1 => by
    split at q1
    · rename_i xs hi
      obtain ⟨l, vs, h1, h2, O, d⟩ := own_at R1 hi
      refine ⟨.ref l, h1, F1, ρ, w1, _, R1, q1, fun x u F2 w2 H2 q2 R2 s2 d2 => ?_⟩
      obtain ⟨l2, vs2, g1, g2, O2, dd⟩ := own_at R2 hi
      rw [h1] at g1; cases g1
      cases x with
      | int k =>
        obtain ⟨j, hj, q2⟩ := q2
        cases (show u = .int k from d2)
        exact ⟨l, vs2, k, j, rfl, rfl, g2, by rw [dd.length]; exact hj, E.nx F2 _ w2 σ _ q2 (R2.wr hi h1 O2 (dd.set (Din.mono s2 _ _ d1) j)) (s1.trans s2)⟩
      | _ => exact q2.elim
    · exact q1.elim⟩⟩

/-! ### defs -/
/-- a contract: the arguments, the world, what is wanted -/
abbrev Ct (U : Wd) := List Dt → U.W → (Dt → U.W → Prop) → Prop
def spOf (U : Wd) (K : PySem.W.Frag) (c : Ct U) : Sp := fun vs H Q _ => ∃ F w ds Qd, Same F H ∧ U.rep F H w ∧ DinL K F ds vs ∧ c ds w Qd ∧ ∀ x v F' w' H', Qd x w' → Bas U ⟨F, H, w⟩ F' w' H' → Din K F' x v → Q v H'
def startR : List Str → List Dt → Rho
  | [], _ => []
  | _ :: N, d :: ds => some (.d d) :: startR N ds
  | _ :: N, [] => none :: startR N []
theorem startR_length : ∀ (N : List Str) (ds : List Dt), (startR N ds).length = N.length
  | [], _ => rfl
  | _ :: N, d :: ds => congrArg (· + 1) (startR_length N ds)
  | _ :: N, [] => congrArg (· + 1) (startR_length N [])
theorem startR_get : ∀ {N : List Str} {ds : List Dt} {i : Nat} {s : Slot}, (startR N ds)[i]? = some (some s) → ∃ y, ds[i]? = some y ∧ s = .d y
  | [], _, i, s, h => by simp [startR] at h
  | _ :: N, d :: ds, 0, s, h => by
    have : Slot.d d = s := by simpa [startR] using h
    exact ⟨d, rfl, this.symm⟩
  | _ :: N, d :: ds, i + 1, s, h => by
    obtain ⟨y, h1, h2⟩ := startR_get (N := N) (ds := ds) (i := i) (by simpa [startR] using h)
    exact ⟨y, by simpa using h1, h2⟩
  | _ :: N, [], 0, s, h => by simp [startR] at h
  | _ :: N, [], i + 1, s, h => by
    obtain ⟨y, h1, h2⟩ := startR_get (N := N) (ds := []) (i := i) (by simpa [startR] using h)
    simp at h1
theorem rel_start {K : PySem.W.Frag} {N : List Str} {F H : Hp} {w : U.W} {ds : List Dt} {vs : List V} (fh : Same F H) (rp : U.rep F H w) (d : DinL K F ds vs) (hl : ds.length ≤ N.length) : Rel U K ⟨F, H, w⟩ F (startR N ds) w (L2.start N vs) H := by
  have dl := d.length
  have noown : ∀ {i : Nat} {xs}, (startR N ds)[i]? = some (some (.own xs)) → False := fun {i xs} h => by
    obtain ⟨y, _, z⟩ := startR_get h
    cases z
  refine ⟨Bas.start fh rp, fun i x h => ?_, fun i xs h => (noown h).elim, fun i j xs ys l h => (noown h).elim, ?_⟩
  · obtain ⟨y, q, z⟩ := startR_get h
    cases z
    obtain ⟨v, h1, h2⟩ := d.get q
    refine ⟨v, ?_, h2⟩
    have hi : i < vs.length := (List.getElem?_eq_some_iff.mp h1).1
    unfold L2.start
    rw [List.getElem?_append_left (by rw [List.length_map]; omega), List.getElem?_map, h1]
    rfl
  · unfold L2.start
    rw [startR_length, List.length_append, List.length_map, List.length_replicate]
    omega
section
variable {P : Program} {wd : World} {K : PySem.W.Frag} {mg : Str → Option Value} {base : Heap}
/-- THE RULE for a def that raises nothing -/
theorem ok_def {x qual : Str} {sd : Stmt} {f : Addr} {fd : FuncData} {N ps : List Str} {k : Nat} {cc : Ct U} {td : TDS U} (F : Fun K x qual sd f fd) (S : FnScope N ps (defScope sd))
    (hb : ∀ (cdv : Value) (A : Around) (outer : List Env) (s : Shared) (H : Hp) (E : XK), Room k (A.deeper (PyProof.Rows.envOfC qual (defScope sd) s.heap.objs.size f cdv)) → DSs (cxOf CX0 P wd K mg base N qual (defScope sd) f cdv A outer s H E).nox U (defBody sd) td)
    (hl : ∀ ds w Q, cc ds w Q → ds.length = ps.length)
    (hq : ∀ ds w Q, cc ds w Q → td { nx := fun _ w' => Q .non w', rt := Q } (startR N ds) w) : FnOk P wd K mg base CX0 (k + 1) f fd ps (spOf U K cc) := by
  have hpl : ps.length ≤ N.length := by have := congrArg List.length S.pre; rw [List.length_take] at this; omega
  refine F.ok S (fun vs H Q E h => ?_) (fun cdv A outer s H vs Q E hr h => ?_)
  · obtain ⟨F0, w, ds, Qd, _, _, d, c, _⟩ := h
    rw [d.length]; exact hl _ _ _ c
  · obtain ⟨F0, w, ds, Qd, fh, rp, d, c, k'⟩ := h
    have dl := hl _ _ _ c
    refine ⟨_, (hb cdv A outer s H E hr).run ⟨F0, H, w⟩, F0, startR N ds, w, _, rel_start fh rp d (by omega), hq ds w _ c, ?_⟩
    exact ⟨fun F' ρ' w' σ' H' q R s => k' .non .non F' w' H' q R.bas rfl, fun x v F' w' H' q B s d => k' x v F' w' H' q B d, fun F' ρ' w' σ' H' q R s => q.elim, fun F' ρ' w' σ' H' q R s => q.elim⟩
end
def dCall (cc : Ct U) (dfl : List Dt) (ta : TDL U) : TD U := fun ρ w Q => ta ρ w fun ds w1 => cc (ds ++ dfl) w1 Q
theorem de_call {es : List Expr} {x : Str} {k : Nat} {f : Addr} {fd : FuncData} {ps : List Str} {cc : Ct U} {ds : List Value} {dfl : List Dt} {dvs : List V} {ta : TDL U} (F : FnOk X.prog X.w X.K X.mg X.base CX0 k f fd ps (spOf U X.K cc)) (hr : Room k X.A) (hg : Gl X x) (hm : X.mg x = some (.ref f))
    (hk : PySem.W.keepIn X.K (.ref f) = true) (hb : Binds X.K fd ps ds) (hd : Vals dvs ds) (hdd : ∀ F, DinL X.K F dfl dvs) (ha : DA X U (ex :: es) ta) (hdb : (x == ("__debug__" : Str)) = false := by decide) (he : starEach (ex :: es) X.env = (false, eval ex X.env) :: starEach es X.env := by rfl) (hpl : (backTo pos (starEach es X.env)).any (·.1) = false := by rfl) :
    DE X U (.Call (.Name x p) (ex :: es) [] pos) (dCall cc dfl ta) :=
  ⟨fun e => (pe_call F hr hg hm hk hb hd (E := E0) pass0 (ha.run e) hdb he hpl).weak fun σ H Q ⟨F0, ρ, w, Q', R, q, k⟩ => ⟨F0, ρ, w, _, R, q, fun xs vs F1 w1 H1 q1 R1 s1 d1 =>
    ⟨F1, w1, xs ++ dfl, _, R1.bas.fh, R1.bas.rep, d1.append (hdd F1), q1, fun y v F' w' H' q' B d' => k y v F' w' H' q' (R1.after B) (s1.trans B.f) d'⟩⟩⟩
end
end DL

set_option Elab.async false
set_option linter.all false
set_option maxRecDepth 100000
set_option maxHeartbeats 4000000
namespace DL
open PySem L2
/-! ### the tape, beside another world V -/
def tpRep (F H : Hp) (T : Addr) : Prop := F T = none ∧ ∃ (L : Addr) (ns : List Int) (pos : Nat) (rest : Int), H T = some (.lst [.ref L, .int pos, .int rest]) ∧ F L = some (.lst (ns.map V.int)) ∧ 0 ≤ rest
def tpW (Vw : Wd) : Wd where
  W := Option Addr × Vw.W
  rep := fun F H w => Vw.rep F H w.2 ∧ ∀ T, w.1 = some T → tpRep F H T ∧ ¬ Vw.foot w.2 T
  foot := fun w a => w.1 = some a ∨ Vw.foot w.2 a
  free := fun {F H w a} r h => by
    rcases h with h | h
    · obtain ⟨⟨f, L, ns, pos, rest, hT, _⟩, _⟩ := r.2 a h
      exact ⟨f, _, hT⟩
    · exact Vw.free r.1 h
  stay := fun {F H F' H' w} r s h => by
    refine ⟨Vw.stay r.1 s fun a ha => h a (.inr ha), fun T hT => ?_⟩
    obtain ⟨⟨f, L, ns, pos, rest, h1, h2, h3⟩, h4⟩ := r.2 T hT
    obtain ⟨g1, g2⟩ := h T (.inl hT)
    exact ⟨⟨g1, L, ns, pos, rest, by rw [g2]; exact h1, s _ _ h2, h3⟩, h4⟩
def cDraw (Vw : Wd) : Ct (tpW Vw) := fun ds w Q => ∃ T many, w.1 = some T ∧ ds = [.ref T, .int many] ∧ 1 ≤ many ∧ many ≤ 10 ^ 13 ∧ ∀ n, 0 ≤ n → n < many → Q (.int n) w
theorem bas_tape {Vw : Wd} {F H H' : Hp} {w : (tpW Vw).W} {T : Addr} {vs : List V} (fh : Same F H) (rp : (tpW Vw).rep F H w) (hT : w.1 = some T) (e : ∀ b, b ≠ T → H' b = H b) (n : ∃ (L : Addr) (ns : List Int) (pos : Nat) (rest : Int), H' T = some (.lst [.ref L, .int pos, .int rest]) ∧ F L = some (.lst (ns.map V.int)) ∧ 0 ≤ rest) :
    Bas (tpW Vw) ⟨F, H, w⟩ F w H' := by
  obtain ⟨r1, r2⟩ := rp
  obtain ⟨⟨f, _⟩, nv⟩ := r2 T hT
  have ne : ∀ b o, F b = some o → b ≠ T := fun b o h z => by rw [z, f] at h; cases h
  have nvf : ∀ a, Vw.foot w.2 a → a ≠ T := fun a h z => nv (z ▸ h)
  refine ⟨fun b o h => by rw [e b (ne b o h)]; exact fh b o h, ⟨Vw.stay r1 (Same.refl _) fun a h => ⟨(Vw.free r1 h).1, e a (nvf a h)⟩, fun T' hT' => ?_⟩, Same.refl _, fun b o h hf => ?_, fun b o h => ?_, fun b o h h0 => ?_, fun b h => .inl h⟩
  · rw [hT] at hT'; cases hT'
    exact ⟨⟨f, n⟩, nv⟩
  · have hb : b ≠ T := fun z => hf (.inl (z ▸ hT))
    exact (e b hb).trans h
  · by_cases hb : b = T
    · obtain ⟨L, ns, pos, rest, h1, _⟩ := n
      exact ⟨_, hb ▸ h1⟩
    · exact ⟨o, (e b hb).trans h⟩
  · have z : F b = none := h0
    rw [z] at h; cases h
section
variable {P : Program} {wd : World} {K : PySem.W.Frag} {mg : Str → Option Value} {base : Heap}
abbrev drTail (K : PySem.W.Frag) : TS := tSeq (tAsg (tOp (rI (fun _ j => 0 < j) fun i j => .int (i % j)) (tOp (rIxL K) (tVar 0) (tC (.int 2))) (tVar 1)) (gName 4))
      (tSeq (tAsg (tOp (rI CDivW fun i j => .int (i / j)) (tOp (rIxL K) (tVar 0) (tC (.int 2))) (tVar 1)) (gSub (tVar 0) (tC (.int 2)) rSetL)) (tRet (tVar 4)))
abbrev drWrite (K : PySem.W.Frag) : TS := tSeq (tAsg (tOp (rI0 fun i j => .int (i + j)) (tOp (rIxL K) (tVar 0) (tC (.int 1))) (tC (.int 1))) (gSub (tVar 0) (tC (.int 1)) rSetL))
          (tAsg (tVar 3) (gSub (tVar 0) (tC (.int 2)) rSetL))
abbrev drMixB (K : PySem.W.Frag) : TS := tSeq (tAsg (tOp (rI (fun _ j => 0 < j) fun i j => .int (i % j)) (tOp (rI0 fun i j => .int (i + j)) (tVar 3) (tOp (rI CMul fun i j => .int (i * j)) (tC (.int 1000003)) (tOp (rIxL K) (tVar 0) (tC (.int 1))))) (tVar 2)) (gName 3))
            (tSeq (tAsg (tOp (rI (fun _ j => 0 < j) fun i j => .int (i % j)) (tOp (rI0 fun i j => .int (i + j)) (tOp (rI0 fun i j => .int (i + j)) (tOp (rI CMul fun i j => .int (i * j)) (tVar 3) (tVar 3)) (tOp (rI CMul fun i j => .int (i * j)) (tC (.int 1181783497276652981)) (tVar 3))) (tC (.int 2049848353892358983))) (tVar 2)) (gName 3))
              (tAsg (tOp (rI (fun _ j => 0 < j) fun i j => .int (i % j)) (tOp (rI0 fun i j => .int (i + j)) (tOp (rI CMul fun i j => .int (i * j)) (tVar 3) (tVar 3)) (tC (.int 1442695040888963407))) (tVar 2)) (gName 3)))
abbrev drMix (K : PySem.W.Frag) : TS := tIfS (tOr (tTest (tOp (rI0 fun i j => .bl (decide (j ≤ i))) (tOp (rIxL K) (tVar 0) (tC (.int 1))) (tCB (fun xs H Q => ∃ p ys, xs = [.ref p] ∧ (SqL K H p ys ∨ SqT K H p ys) ∧ Q (.int ys.length) H) (tCons (tOp (rIxL K) (tVar 0) (tC (.int 0))) tNil))))
              (tTest (tOp (rI0 fun i j => .bl (decide (i < j))) (tVar 3) (tOp (rI CPow fun i j => .int (i ^ j.toNat)) (tC (.int 10)) (tC (.int 18)))))) (drMixB K) tNext
theorem draw_tail {T L : Addr} {H : Hp} {p : Nat} {r many : Int} {Q : VK} {v2 v3 v4 : Option V} (hm : 1 ≤ many) (hm2 : many ≤ 10 ^ 13) (h : H T = some (.lst [.ref L, .int p, .int r])) (h0 : 0 ≤ r)
    (k : ∀ n r', 0 ≤ n → n < many → 0 ≤ r' → Q (.int n) (upd H T (.lst [.ref L, .int p, .int r']))) :
    drTail K
      { nx := fun _ H' => Q .non H', rt := Q } [some (.ref T), some (.int many), v2, v3, v4] H := by
  have a2 : atI [V.ref L, .int p, .int r] 2 = some (.int r) := rfl
  refine ⟨_, rfl, T, _, 2, _, rfl, rfl, SqL.of h, a2, _, rfl, _, _, rfl, rfl, (show 0 < many by omega), ?_⟩
  refine ⟨_, rfl, T, _, 2, _, rfl, rfl, SqL.of h, a2, _, rfl, _, _, rfl, rfl, wide_div (b := 44) (by omega) (by omega) (by decide) (by decide), ?_⟩
  refine ⟨_, rfl, T, _, 2, 2, rfl, rfl, h, rfl, ?_⟩
  exact ⟨_, rfl, k (r % many) (r / many) (Int.emod_nonneg _ (by omega)) (Int.emod_lt_of_pos _ (by omega)) (Int.ediv_nonneg h0 (by omega))⟩
theorem ok_draw {Vw : Wd} {sd : Stmt} {f : Addr} {fd : FuncData} (F : Fun K "_law_draw" "_law_draw" sd f fd) (sc : FnScope ["tape", "many", "prime", "cell", "found"] ["tape", "many"] (defScope sd))
    (hb : ∀ (cdv : Value) (A : Around) (outer : List Env) (s : Shared) (H : Hp) (E : XK), PSs (cxOf CX0 P wd K mg base ["tape", "many", "prime", "cell", "found"] "_law_draw" (defScope sd) f cdv A outer s H E).nox (defBody sd)
      (tSeq (tAsg (tC (.int 2305843009213693951)) (gName 2))
      (tSeq (tIfS (tTest (tOp (rI0 fun i j => .bl (decide (i < j))) (tOp (rIxL K) (tVar 0) (tC (.int 2))) (tVar 1)))
        (tSeq (tAsg (tC (.int 0)) (gName 3))
        (tSeq (tIfS (tTest (tOp (rI0 fun i j => .bl (decide (j < i))) (tCB (fun xs H Q => ∃ p ys, xs = [.ref p] ∧ (SqL K H p ys ∨ SqT K H p ys) ∧ Q (.int ys.length) H) (tCons (tOp (rIxL K) (tVar 0) (tC (.int 0))) tNil)) (tC (.int 0))))
            (tAsg (tOp (rIxL K) (tOp (rIxL K) (tVar 0) (tC (.int 0))) (tOp (rI (fun _ j => 0 < j) fun i j => .int (i % j)) (tOp (rIxL K) (tVar 0) (tC (.int 1))) (tCB (fun xs H Q => ∃ p ys, xs = [.ref p] ∧ (SqL K H p ys ∨ SqT K H p ys) ∧ Q (.int ys.length) H) (tCons (tOp (rIxL K) (tVar 0) (tC (.int 0))) tNil)))) (gName 3)) tNext)
        (tSeq (drMix K)
        (drWrite K)))) tNext)
      (drTail K)))) :
    FnOk P wd K mg base CX0 1 f fd ["tape", "many"] (spOf (tpW Vw) K (cDraw Vw)) := by
  refine F.ok sc (fun vs H Q E h => ?_) (fun cdv A outer s H vs Q E hr h => ?_)
  · obtain ⟨F0, w, ds, Qd, _, _, d, ⟨T, many, _, e, _⟩, _⟩ := h
    rw [d.length, e]; rfl
  obtain ⟨F0, w, ds, Qd, fh, rp, d, ⟨T, many, hT, e, hm, hm2, hq⟩, k⟩ := h
  subst e
  obtain ⟨v, u, e1, d1, d2⟩ := d.two
  cases (show v = .ref T from d1)
  cases (show u = .int many from d2)
  subst e1
  obtain ⟨⟨fT, L, ns, pos, rest, hTl, fL, h0⟩, nv⟩ := rp.2 T hT
  have nLT : L ≠ T := fun z => by rw [z, fT] at fL; cases fL
  have hLl : H L = some (.lst (ns.map V.int)) := fh _ _ fL
  -- the end, whatever the tape became
  have fin : ∀ (H' : Hp) (p : Nat) (r : Int), (∀ b, b ≠ T → H' b = H b) → 0 ≤ r → H' T = some (.lst [.ref L, .int p, .int r]) → ∀ n, 0 ≤ n → n < many → Q (.int n) H' := fun H' p r e hr' h n n0 n1 =>
    k (.int n) (.int n) F0 w H' (hq n n0 n1) (bas_tape (vs := []) fh rp hT e ⟨L, ns, p, r, h, fL, hr'⟩) rfl
  refine ⟨_, hb cdv A outer s H E, ?_⟩
  have a0 : ∀ (p : Nat) (r : Int), atI [V.ref L, .int p, .int r] 0 = some (.ref L) := fun _ _ => rfl
  have a1 : ∀ (p : Nat) (r : Int), atI [V.ref L, .int p, .int r] 1 = some (.int p) := fun _ _ => rfl
  have a2 : ∀ (p : Nat) (r : Int), atI [V.ref L, .int p, .int r] 2 = some (.int r) := fun _ _ => rfl
  show tSeq _ _ _ [some (.ref T), some (.int many), none, none, none] H
  refine ⟨_, rfl, T, _, 2, _, rfl, rfl, SqL.of hTl, a2 _ _, _, rfl, _, _, rfl, rfl, _, rfl, ?_⟩
  refine ite2 (fun c1 => ?_) (fun c1 => ?_)
  · -- a new cell
    have hlen : ((ns.map V.int).length : Int) = (ns.length : Int) := by rw [List.length_map]
    -- behind the cell c: the tape is written
    have wr : ∀ (c : Int), 0 ≤ c → drWrite K { nx := fun σ' H' => drTail K { nx := fun _ H' => Q .non H', rt := Q } σ' H', rt := Q } [some (.ref T), some (.int many), some (.int 2305843009213693951), some (.int c), none] H := fun c hc => by
      refine ⟨_, rfl, T, _, 1, _, rfl, rfl, SqL.of hTl, a1 _ _, _, _, rfl, rfl, ?_⟩
      refine ⟨_, rfl, T, _, 1, 1, rfl, rfl, hTl, rfl, ?_⟩
      refine ⟨_, rfl, _, rfl, T, _, 2, 2, rfl, rfl, upd_same, rfl, ?_⟩
      rw [upd_upd]
      have ec : ((pos : Int) + 1) = ((pos + 1 : Nat) : Int) := by omega
      refine draw_tail (L := L) (p := pos + 1) (r := c) hm hm2 (by rw [upd_same]; simp only [List.set]; rw [ec]) hc fun n r' n0 n1 r0 => ?_
      rw [upd_upd]
      exact fin _ (pos + 1) r' (fun b hb => upd_ne hb) r0 upd_same n n0 n1
    -- the cell mixed or as it is
    have mix : ∀ (c : Int), tSeq (drMix K) (drWrite K) { nx := fun σ' H' => drTail K { nx := fun _ H' => Q .non H', rt := Q } σ' H', rt := Q } [some (.ref T), some (.int many), some (.int 2305843009213693951), some (.int c), none] H := fun c => by
      have mixed : drMixB K { nx := fun σ' H' => drWrite K { nx := fun σ' H' => drTail K { nx := fun _ H' => Q .non H', rt := Q } σ' H', rt := Q } σ' H', rt := Q } [some (.ref T), some (.int many), some (.int 2305843009213693951), some (.int c), none] H := by
        have p0 : (0 : Int) < 2305843009213693951 := by decide
        have st3 : ∀ y : Int, 0 ≤ y → y < 2305843009213693951 → tAsg (tOp (rI (fun _ j => 0 < j) fun i j => .int (i % j)) (tOp (rI0 fun i j => .int (i + j)) (tOp (rI CMul fun i j => .int (i * j)) (tVar 3) (tVar 3)) (tC (.int 1442695040888963407))) (tVar 2)) (gName 3)
            { nx := fun σ' H' => drWrite K { nx := fun σ' H' => drTail K { nx := fun _ H' => Q .non H', rt := Q } σ' H', rt := Q } σ' H', rt := Q } [some (.ref T), some (.int many), some (.int 2305843009213693951), some (.int y), none] H := fun y y0 y1 => by
          have my : CMul y y := .inl ⟨by omega, by omega⟩
          refine ⟨_, rfl, _, rfl, _, _, rfl, rfl, my, _, _, rfl, rfl, _, rfl, _, _, rfl, rfl, p0, ?_⟩
          exact wr _ (Int.emod_nonneg _ (by decide))
        have st2 : ∀ x : Int, 0 ≤ x → x < 2305843009213693951 → tSeq (tAsg (tOp (rI (fun _ j => 0 < j) fun i j => .int (i % j)) (tOp (rI0 fun i j => .int (i + j)) (tOp (rI0 fun i j => .int (i + j)) (tOp (rI CMul fun i j => .int (i * j)) (tVar 3) (tVar 3)) (tOp (rI CMul fun i j => .int (i * j)) (tC (.int 1181783497276652981)) (tVar 3))) (tC (.int 2049848353892358983))) (tVar 2)) (gName 3))
              (tAsg (tOp (rI (fun _ j => 0 < j) fun i j => .int (i % j)) (tOp (rI0 fun i j => .int (i + j)) (tOp (rI CMul fun i j => .int (i * j)) (tVar 3) (tVar 3)) (tC (.int 1442695040888963407))) (tVar 2)) (gName 3))
            { nx := fun σ' H' => drWrite K { nx := fun σ' H' => drTail K { nx := fun _ H' => Q .non H', rt := Q } σ' H', rt := Q } σ' H', rt := Q } [some (.ref T), some (.int many), some (.int 2305843009213693951), some (.int x), none] H := fun x x0 x1 => by
          have mx : CMul x x := .inl ⟨by omega, by omega⟩
          refine ⟨_, rfl, _, rfl, _, _, rfl, rfl, mx, _, rfl, _, _, rfl, rfl, .inl ⟨by decide, by decide⟩, _, _, rfl, rfl, _, _, rfl, rfl, _, rfl, _, _, rfl, rfl, p0, ?_⟩
          exact st3 _ (Int.emod_nonneg _ (by decide)) (Int.emod_lt_of_pos _ (by decide))
        refine ⟨_, rfl, _, rfl, T, _, 1, _, rfl, rfl, SqL.of hTl, a1 _ _, _, _, rfl, rfl, .inl ⟨by decide, by decide⟩, _, _, rfl, rfl, _, rfl, _, _, rfl, rfl, p0, ?_⟩
        exact st2 _ (Int.emod_nonneg _ (by decide)) (Int.emod_lt_of_pos _ (by decide))
      refine ⟨_, rfl, T, _, 1, _, rfl, rfl, SqL.of hTl, a1 _ _, _, rfl, T, _, 0, _, rfl, rfl, SqL.of hTl, a0 _ _, L, _, rfl, .inl (SqL.of hLl), _, _, rfl, rfl, _, rfl, ?_⟩
      refine ite2 (fun _ => iteT mixed) (fun _ => ?_)
      refine ⟨_, rfl, _, _, rfl, rfl, ⟨by decide, by decide, by decide⟩, _, _, rfl, rfl, _, rfl, ?_⟩
      refine ite2 (fun _ => mixed) (fun c2 => ?_)
      have c3 : ¬ c < 10 ^ (18 : Int).toNat := of_decide_eq_false (Bool.eq_false_iff.mpr c2)
      have e18 : (10 : Int) ^ (18 : Int).toNat = 1000000000000000000 := by decide
      rw [e18] at c3
      exact wr c (by omega)
    refine ⟨_, rfl, T, _, 0, _, rfl, rfl, SqL.of hTl, a0 _ _, L, _, rfl, .inl (SqL.of hLl), _, _, rfl, rfl, _, rfl, ?_⟩
    refine ite2 (fun c2 => ?_) (fun c2 => mix 0)
    have hpos : 0 < ns.length := by
      have c3 : (0 : Int) < ((ns.map V.int).length : Int) := of_decide_eq_true c2
      rw [hlen] at c3
      omega
    have hj : pos % ns.length < ns.length := Nat.mod_lt _ hpos
    refine ⟨_, rfl, T, _, 0, _, rfl, rfl, SqL.of hTl, a0 _ _, _, rfl, T, _, 1, _, rfl, rfl, SqL.of hTl, a1 _ _, _, rfl, T, _, 0, _, rfl, rfl, SqL.of hTl, a0 _ _, L, _, rfl, .inl (SqL.of hLl), _, _, rfl, rfl, (by rw [hlen]; omega), ?_⟩
    refine ⟨L, _, _, .int ns[pos % ns.length], rfl, rfl, SqL.of hLl, ?_, mix _⟩
    have e4 : (pos : Int) % ((ns.map V.int).length : Int) = ((pos % ns.length : Nat) : Int) := by rw [hlen]; omega
    rw [e4]
    exact atI_nat (by rw [List.getElem?_map, List.getElem?_eq_getElem hj]; rfl)
  · exact draw_tail (L := L) (p := pos) (r := rest) hm hm2 hTl h0 fun n r' n0 n1 r0 => fin _ pos r' (fun b hb => upd_ne hb) r0 upd_same n n0 n1
end
end DL

set_option Elab.async false
set_option linter.all false
set_option maxRecDepth 100000
set_option maxHeartbeats 4000000
namespace DL
open PySem L2
/-- the built-ins' names stand free -/
structure BI (mg : Str → Option Value) : Prop where
  len : mg "len" = none
  all : mg "all" = none
  any : mg "any" = none
  sum : mg "sum" = none
  abs : mg "abs" = none
  max : mg "max" = none
  min : mg "min" = none
  list : mg "list" = none
  tuple : mg "tuple" = none
  int : mg "int" = none
  bool : mg "bool" = none
  str : mg "str" = none
  isinstance : mg "isinstance" = none
  range : mg "range" = none
  zip : mg "zip" = none
  enumerate : mg "enumerate" = none
  sorted : mg "sorted" = none
  set : mg "set" = none
  dict : mg "dict" = none
/-- a constant of the module -/
def GC (K : PySem.W.Frag) (mg : Str → Option Value) (x : Str) (d : Dt) : Prop := ∃ v u, mg x = some u ∧ RelV v u ∧ ∀ F, Din K F d v
/-- a def that may be called with such arguments -/
structure Cal (U : Wd) (P : Program) (wd : World) (K : PySem.W.Frag) (mg : Str → Option Value) (base : Heap) (x : Str) (k : Nat) (c : Ct U) : Prop where
  go : ∃ (f : Addr) (fd : FuncData) (ps : List Str) (c0 : Ct U) (ds : List Value) (dvs : List V) (dfl : List Dt), FnOk P wd K mg base CX0 k f fd ps (spOf U K c0) ∧ mg x = some (.ref f) ∧ PySem.W.keepIn K (.ref f) = true ∧ Binds K fd ps ds ∧ Vals dvs ds ∧ (∀ F, DinL K F dfl dvs) ∧
    ∀ as w Q, c as w Q → c0 (as ++ dfl) w Q
def dCal {U : Wd} (c : Ct U) (ta : TDL U) : TD U := fun ρ w Q => ta ρ w fun ds w1 => c ds w1 Q
section
variable {X : Cx} {U : Wd} {a b ex : Expr} {ta tb : TD U} {pos p : Pos}
theorem de_con {x : Str} {d : Dt} (h : GC X.K X.mg x d) (hg : Gl X x) (hd : (x == ("__debug__" : Str)) = false := by decide) : DE X U (.Name x p) (dC d) := by
  obtain ⟨v, u, hm, r, hh⟩ := h
  exact de_glob hg hm r hh hd
theorem de_cal {es : List Expr} {x : Str} {k : Nat} {c : Ct U} {ta : TDL U} (h : Cal U X.prog X.w X.K X.mg X.base x k c) (hr : Room k X.A) (hg : Gl X x) (ha : DA X U (ex :: es) ta) (hdb : (x == ("__debug__" : Str)) = false := by decide)
    (he : starEach (ex :: es) X.env = (false, eval ex X.env) :: starEach es X.env := by rfl) (hpl : (backTo pos (starEach es X.env)).any (·.1) = false := by rfl) : DE X U (.Call (.Name x p) (ex :: es) [] pos) (dCal c ta) := by
  obtain ⟨f, fd, ps, c0, ds, dvs, dfl, F, hm, hk, hb, hd, hdd, hc⟩ := h.go
  exact ⟨fun e => (pe_call F hr hg hm hk hb hd (E := E0) pass0 (ha.run e) hdb he hpl).weak fun σ H Q ⟨F0, ρ, w, Q', R, q, k⟩ => ⟨F0, ρ, w, _, R, q, fun xs vs F1 w1 H1 q1 R1 s1 d1 =>
    ⟨F1, w1, xs ++ dfl, _, R1.bas.fh, R1.bas.rep, d1.append (hdd F1), hc _ _ _ q1, fun y v F' w' H' q' B d' => k y v F' w' H' q' (R1.after B) (s1.trans B.f) d'⟩⟩⟩
/-- the same with arguments by keywords: c takes the positional ones, then the keywords' -/
structure CalK (U : Wd) (P : Program) (wd : World) (K : PySem.W.Frag) (mg : Str → Option Value) (base : Heap) (x : Str) (n : Nat) (ks : List Str) (k : Nat) (c : List Dt → List Dt → U.W → (Dt → U.W → Prop) → Prop) : Prop where
  go : ∃ (f : Addr) (fd : FuncData) (ps : List Str) (c0 : Ct U) (g : List Value → List Value → List Value) (gV : List V → List V → List V) (gD : List Dt → List Dt → List Dt), FnOk P wd K mg base CX0 k f fd ps (spOf U K c0) ∧ mg x = some (.ref f) ∧ PySem.W.keepIn K (.ref f) = true ∧
    KBn K fd ps n ks g gV ∧ (∀ F as bs vs us, DinL K F as vs → DinL K F bs us → DinL K F (gD as bs) (gV vs us)) ∧ ∀ as bs w Q, c as bs w Q → as.length = n ∧ bs.length = ks.length ∧ c0 (gD as bs) w Q
def upK (U : Wd) (K : PySem.W.Frag) (e : Ent U) (t : TDL U) : TA := upA U K e t
structure DK (X : Cx) (U : Wd) (kws : List Keyword) (t : TDL U) : Prop where
  run : ∀ e, PK X kws (upA U X.K e t)
theorem _root_.L2.PK.weak {kws : List Keyword} {t t' : TA} (h : PK X kws t) (i : ∀ σ H Q, t' σ H Q → t σ H Q) : PK X kws t' := ⟨fun pos pins s σ H Q I q => h.run pos pins s σ H Q I (i σ H Q q)⟩
theorem dk_nil : DK X U [] dNil := ⟨fun e => pk_nil.weak fun σ H Q ⟨F, ρ, w, Q', R, q, k⟩ => k [] [] F w H q R (Same.refl _) rfl⟩
theorem dk_cons {nm : Option Str} {kpos : Pos} {kws : List Keyword} {t : TDL U} (ha : DE X U ex ta) (hr : DK X U kws t) : DK X U (⟨nm, ex, kpos⟩ :: kws) (dCons ta t) := ⟨fun e => (pk_cons (ha.run e) (hr.run e)).weak fun σ H Q ⟨F, ρ, w, Q', R, q, k⟩ =>
  ⟨F, ρ, w, _, R, q, fun x v F1 w1 H1 q1 R1 s1 d1 => ⟨F1, ρ, w1, _, R1, q1, fun xs vs F2 w2 H2 q2 R2 s2 d2 => k (x :: xs) (v :: vs) F2 w2 H2 q2 R2 (s1.trans s2) ⟨v, vs, rfl, Din.mono s2 _ _ d1, d2⟩⟩⟩⟩
def dCalK {U : Wd} (c : List Dt → List Dt → U.W → (Dt → U.W → Prop) → Prop) (ta tk : TDL U) : TD U := fun ρ w Q => ta ρ w fun ds w1 => tk ρ w1 fun zs w2 => c ds zs w2 Q
theorem de_calK {es : List Expr} {kws : List Keyword} {x : Str} {k n : Nat} {ks : List Str} {c : List Dt → List Dt → U.W → (Dt → U.W → Prop) → Prop} {ta tk : TDL U} (h : CalK U X.prog X.w X.K X.mg X.base x n ks k c) (hr : Room k X.A) (hg : Gl X x) (ha : DA X U (ex :: es) ta) (hkw : DK X U kws tk)
    (hall : (backToKw pos (keywordEach kws X.env)).all (·.1.isSome) = true := by rfl) (hks : (backToKw pos (keywordEach kws X.env)).filterMap (·.1) = ks := by rfl)
    (hdb : (x == ("__debug__" : Str)) = false := by decide) (he : starEach (ex :: es) X.env = (false, eval ex X.env) :: starEach es X.env := by rfl)
    (hpl : ((backTo pos (starEach (ex :: es) X.env)).any (·.1) || (backToKw pos (keywordEach kws X.env)).any (·.1.isNone)) = false := by rfl) : DE X U (.Call (.Name x p) (ex :: es) kws pos) (dCalK c ta tk) := by
  obtain ⟨f, fd, ps, c0, g, gV, gD, F, hm, hk, hb, hd, hc⟩ := h.go
  exact ⟨fun e => (pe_callN F hr hg hm hk hb (E := E0) pass0 (ha.run e) (hkw.run e) hall hks hdb he hpl).weak fun σ H Q ⟨F0, ρ, w, Q', R, q, k⟩ => ⟨F0, ρ, w, _, R, q, fun xs vs F1 w1 H1 q1 R1 s1 d1 =>
    ⟨F1, ρ, w1, _, R1, q1, fun zs us F2 w2 H2 q2 R2 s2 d2 => by
      obtain ⟨l1, l2, q3⟩ := hc _ _ _ _ q2
      exact ⟨d1.length.trans l1, d2.length.trans l2, F2, w2, gD xs zs, _, R2.bas.fh, R2.bas.rep, hd F2 _ _ _ _ (DinL.mono s2 _ _ d1) d2, q3, fun y v F' w' H' q' B d' => k y v F' w' H' q' (R2.after B) (s1.trans (s2.trans B.f)) d'⟩⟩⟩⟩

/-! ### texts -/
def allS : List Dt → Option (List Str)
  | [] => some []
  | .str b :: r => (allS r).map (b :: ·)
  | _ :: _ => none
theorem allS_map : ∀ bs : List Str, allS (bs.map Dt.str) = some bs
  | [] => rfl
  | b :: r => by rw [List.map_cons]; show (allS (r.map Dt.str)).map (b :: ·) = _; rw [allS_map r]; rfl
theorem allS_eq : ∀ {xs : List Dt} {bs : List Str}, allS xs = some bs → xs = bs.map Dt.str
  | [], _, h => by cases h; rfl
  | .str b :: r, bs, h => by
    cases e : allS r with
    | none => simp [allS, e] at h
    | some cs =>
      simp [allS, e] at h
      subst h
      rw [allS_eq e]; rfl
  | .non :: _, _, h => nomatch h
  | .bl _ :: _, _, h => nomatch h
  | .int _ :: _, _, h => nomatch h
  | .tup _ :: _, _, h => nomatch h
  | .lst _ :: _, _, h => nomatch h
  | .ref _ :: _, _, h => nomatch h
theorem strOk_join {y : Str} (hy : PyData.strOk y = true) : ∀ {ys : List Str}, (∀ s ∈ ys, PyData.strOk s = true) → PyData.strOk (Txt.join y ys) = true := by
  intro ys h
  rw [TL.join_eq]
  induction ys with
  | nil =>
    have e : Str.join y [] = Str.empty := by first | rfl | simp [Str.join]
    rw [e]; decide +kernel
  | cons x r ih =>
    cases r with
    | nil => exact h x (List.mem_cons_self ..)
    | cons z r =>
      show PyData.strOk (x ++ y ++ Str.join y (z :: r)) = true
      exact strOk_append (strOk_append (h x (List.mem_cons_self ..)) hy) (ih fun s hs => h s (List.mem_cons_of_mem _ hs))
/-- a method of a text with one argument -/
def dM1 (g : Str → Dt → (Dt → Prop) → Prop) (ta tb : TD U) : TD U := fun ρ w Q => ta ρ w fun x w1 => match x with
  | .str a => tb ρ w1 fun y w2 => g a y fun z => Q z w2
  | _ => False
def gJoin (a : Str) (y : Dt) (Q : Dt → Prop) : Prop := match y with
  | .lst xs => match allS xs with
    | some ys => (ys.map (·.length)).sum + ys.length * a.length ≤ 16777216 ∧ Q (.str (Txt.join a ys))
    | none => False
  | _ => False
theorem de_join {apos pos : Pos} (ha : DB X U a ta) (hb : DB X U b tb) (hs : starEach [b] X.env = [(false, eval b X.env)] := by rfl) (hbase : attributeBase a "join" X.env (eval a X.env) = eval a X.env := by rfl) (hline : (apos.endLine == pos.line) = true := by rfl) :
    DE X U (.Call (.Attribute a "join" apos) [b] [] pos) (dM1 gJoin ta tb) :=
  ⟨fun e => (pe_join (ha.run e) (hb.run e) hs hbase hline).weak fun σ H Q ⟨F, ρ, w, Q', R, q, k⟩ => ⟨F, ρ, w, _, R, q, fun x v F1 w1 H1 q1 R1 s1 b1 => by
    cases x with
    | str a =>
      obtain ⟨e1, oa⟩ := b1.str
      refine ⟨⟨a, e1⟩, F1, ρ, w1, _, R1, q1, fun y u F2 w2 H2 q2 R2 s2 b2 => ?_⟩
      cases y with
      | lst xs =>
        obtain ⟨p, vs, e2, h2, d2⟩ := R2.bor b2
        unfold gJoin at q2
        dsimp only at q2
        cases eb : allS xs with
        | none => rw [eb] at q2; exact q2.elim
        | some ys =>
          rw [eb] at q2
          have := allS_eq eb
          subst this
          obtain ⟨e3, os⟩ := d2.strs
          subst e2 e3
          exact ⟨a, p, ys, e1, rfl, .inl (SqL.of h2), q2.1, k _ _ F2 w2 H2 q2.2 R2 (s1.trans s2) ⟨rfl, strOk_join oa os⟩⟩
      | _ => exact q2.elim
    | _ => exact q1.elim⟩⟩
def gStarts (a : Str) (y : Dt) (Q : Dt → Prop) : Prop := match y with
  | .str b => Q (.bl (Txt.startswith a b))
  | _ => False
theorem de_startswith {apos pos : Pos} (ha : DB X U a ta) (hb : DB X U b tb) (hs : starEach [b] X.env = [(false, eval b X.env)] := by rfl) (hbase : attributeBase a "startswith" X.env (eval a X.env) = eval a X.env := by rfl) (hline : (apos.endLine == pos.line) = true := by rfl) :
    DE X U (.Call (.Attribute a "startswith" apos) [b] [] pos) (dM1 gStarts ta tb) :=
  ⟨fun e => (pe_m1 PySem.F.slot_str_startswith PySem.F.type_str_startswith mt_startswith (ha.run e) (hb.run e) hs hbase hline).weak fun σ H Q ⟨F, ρ, w, Q', R, q, k⟩ => ⟨F, ρ, w, _, R, q, fun x v F1 w1 H1 q1 R1 s1 b1 => by
    cases x with
    | str a =>
      obtain ⟨e1, oa⟩ := b1.str
      refine ⟨⟨a, e1⟩, F1, ρ, w1, _, R1, q1, fun y u F2 w2 H2 q2 R2 s2 b2 => ?_⟩
      cases y with
      | str b =>
        obtain ⟨e2, ob⟩ := b2.str
        exact ⟨a, b, e1, by rw [e2], k _ _ F2 w2 H2 q2 R2 (s1.trans s2) rfl⟩
      | _ => exact q2.elim
    | _ => exact q1.elim⟩⟩
/-- x.split(sep) -/
def dSplit (ta tb : TD U) : TDL U := fun ρ w Q => ta ρ w fun x w1 => match x with
  | .str a => tb ρ w1 fun y w2 => match y with
    | .str b => ((b.length == 0) = false ∧ a.length + 2 ≤ sizeLine ∧ ∀ s ∈ Txt.split a b, PyData.strOk s = true) ∧ Q ((Txt.split a b).map Dt.str) w2
    | _ => False
  | _ => False
theorem df_split {apos pos : Pos} (ha : DB X U a ta) (hb : DB X U b tb) (hs : starEach [b] X.env = [(false, eval b X.env)] := by rfl) (hbase : attributeBase a "split" X.env (eval a X.env) = eval a X.env := by rfl) (hline : (apos.endLine == pos.line) = true := by rfl) :
    DF X U (.Call (.Attribute a "split" apos) [b] [] pos) (dSplit ta tb) :=
  ⟨fun e => (pe_split (ha.run e) (hb.run e) hs hbase hline).weak fun σ H Q ⟨F, ρ, w, Q', R, q, k⟩ => ⟨F, ρ, w, _, R, q, fun x v F1 w1 H1 q1 R1 s1 b1 => by
    cases x with
    | str a =>
      obtain ⟨e1, oa⟩ := b1.str
      refine ⟨⟨a, e1⟩, F1, ρ, w1, _, R1, q1, fun y u F2 w2 H2 q2 R2 s2 b2 => ?_⟩
      cases y with
      | str b =>
        obtain ⟨e2, ob⟩ := b2.str
        obtain ⟨⟨z1, z2, z3⟩, q2⟩ := q2
        refine ⟨a, b, e1, by rw [e2], z1, z2, fun p hp => ?_⟩
        obtain ⟨R3, f3⟩ := R2.mine hp ((Txt.split a b).map V.str)
        exact k _ p _ F2 w2 _ q2 R3 (s1.trans s2) f3 (DinL.of_strs _ z3)
      | _ => exact q2.elim
    | _ => exact q1.elim⟩⟩
/-- str(i), int(text) -/
def gStrI (x : Dt) (Q : Dt → Prop) : Prop := match x with
  | .int i => i.natAbs.log2 < 1920 ∧ PyData.strOk (toString i : String) = true ∧ Q (.str (toString i : String))
  | _ => False
theorem un_strI {K : PySem.W.Frag} : Un1 U K (fun xs H Q => ∃ i, xs = [.int i] ∧ i.natAbs.log2 < 1920 ∧ Q (.str (toString i)) H) gStrI := ⟨fun e F ρ w σ H x v Q Q' R hx q k => by
  cases x with
  | int i => exact ⟨i, by rw [hx.int], q.1, k _ _ F H q.2.2 R (Same.refl _) ⟨rfl, q.2.1⟩⟩
  | _ => exact (show False from q).elim⟩
theorem de_strInt {p2 pos : Pos} (hg : Gl X "str") (hm : X.mg "str" = none) (ha : DB X U a ta) (hs : starEach [a] X.env = [(false, eval a X.env)] := by rfl) : DE X U (.Call (.Name "str" p2) [a] [] pos) (dUn gStrI ta) :=
  de_callTy call_str_int un_strI hg hm (by decide +kernel) ha (hs := hs)
def gIntS (x : Dt) (Q : Dt → Prop) : Prop := match x with
  | .str a => a.length ≤ 640 ∧ ∃ n, PySem.intText? a = some n ∧ Q (.int n)
  | _ => False
theorem un_intS {K : PySem.W.Frag} : Un1 U K (fun xs H Q => ∃ a n, xs = [.str a] ∧ PySem.intText? a = some n ∧ a.length ≤ 640 ∧ Q (.int n) H) gIntS := ⟨fun e F ρ w σ H x v Q Q' R hx q k => by
  cases x with
  | str i =>
    obtain ⟨hl, n, hn, q⟩ := q
    exact ⟨i, n, by rw [hx.str.1], hn, hl, k _ _ F H q R (Same.refl _) rfl⟩
  | _ => exact (show False from q).elim⟩
theorem de_intStr {p2 pos : Pos} (hg : Gl X "int") (hm : X.mg "int" = none) (ha : DB X U a ta) (hs : starEach [a] X.env = [(false, eval a X.env)] := by rfl) : DE X U (.Call (.Name "int" p2) [a] [] pos) (dUn gIntS ta) :=
  de_callTy call_int_str un_intS hg hm (by decide +kernel) ha (hs := hs)
theorem bt_int : bootBuiltins "int" = some (.type "int") := by decide +kernel
theorem bt_bool : bootBuiltins "bool" = some (.type "bool") := by decide +kernel
theorem bt_str : bootBuiltins "str" = some (.type "str") := by decide +kernel
theorem bt_tuple : bootBuiltins "tuple" = some (.type "tuple") := by decide +kernel
theorem bt_list : bootBuiltins "list" = some (.type "list") := by decide +kernel
end
/-- no other world -/
def unitW : Wd where
  W := Unit
  rep := fun _ _ _ => True
  foot := fun _ _ => False
  free := fun _ h => h.elim
  stay := fun _ _ _ => trivial
abbrev UU : Wd := tpW unitW
end DL

set_option Elab.async false
set_option linter.all false
set_option maxRecDepth 100000
set_option maxHeartbeats 4000000
namespace DL
open PySem L2
def getS : Rho → Nat → Option Slot
  | [], _ => none
  | s :: _, 0 => s
  | _ :: r, n + 1 => getS r n
theorem getS_eq : ∀ (ρ : Rho) (i : Nat), getS ρ i = (ρ[i]?).getD none
  | [], i => by simp [getS]
  | s :: r, 0 => rfl
  | s :: r, n + 1 => by
    show getS r n = _
    rw [getS_eq r n]; rfl
theorem getS_z (s : Option Slot) (r : Rho) : getS (s :: r) 0 = s := rfl
theorem getS_s (s : Option Slot) (r : Rho) (n : Nat) : getS (s :: r) (n + 1) = getS r n := rfl
def onD (s : Option Slot) (k : Dt → Prop) : Prop := match s with
  | some (.d x) => k x
  | _ => False
def onO (s : Option Slot) (k : List Dt → Prop) : Prop := match s with
  | some (.own x) => k x
  | _ => False
def onBl (x : Dt) (k : Bool → Prop) : Prop := match x with
  | .bl b => k b
  | _ => False
def onInt (x : Dt) (k : Int → Prop) : Prop := match x with
  | .int b => k b
  | _ => False
def onStr (x : Dt) (k : Str → Prop) : Prop := match x with
  | .str b => k b
  | _ => False
def onTup (x : Dt) (k : List Dt → Prop) : Prop := match x with
  | .tup b => k b
  | _ => False
def onLst (x : Dt) (k : List Dt → Prop) : Prop := match x with
  | .lst b => k b
  | _ => False
def gSl (x : Dt) (l u : Option Int) (k : Dt → Prop) : Prop := match x with
  | .tup xs => k (.tup (cutD xs l u))
  | .str s => s.length ≤ sizeLine ∧ k (.str (cutS s l u))
  | .lst xs => k (.lst (cutD xs l u))
  | _ => False
theorem onD_d (x : Dt) (k : Dt → Prop) : onD (some (.d x)) k = k x := rfl
theorem onO_o (x : List Dt) (k : List Dt → Prop) : onO (some (.own x)) k = k x := rfl
theorem onBl_b (b : Bool) (k : Bool → Prop) : onBl (.bl b) k = k b := rfl
theorem onInt_i (b : Int) (k : Int → Prop) : onInt (.int b) k = k b := rfl
theorem onStr_s (b : Str) (k : Str → Prop) : onStr (.str b) k = k b := rfl
theorem onTup_t (b : List Dt) (k : List Dt → Prop) : onTup (.tup b) k = k b := rfl
theorem onLst_l (b : List Dt) (k : List Dt → Prop) : onLst (.lst b) k = k b := rfl
section
variable {U : Wd} {ta tb tc te : TD U} {ρ : Rho} {w : U.W} {Q : Dt → U.W → Prop} {QL : List Dt → U.W → Prop} {QT : Bool → U.W → Prop} {QO : Option Int → U.W → Prop} {QR : Rho → U.W → Prop} {D : DEnds U} {i j : Nat}
theorem ev_var : dVar i ρ w Q = onD (getS ρ i) fun x => Q x w := by
  rw [getS_eq]; unfold dVar
  cases ρ[i]? with
  | none => rfl
  | some s => cases s with
    | none => rfl
    | some s => cases s <;> rfl
theorem ev_own : dOwn i ρ w Q = onO (getS ρ i) fun xs => Q (.lst xs) w := by
  rw [getS_eq]; unfold dOwn
  cases ρ[i]? with
  | none => rfl
  | some s => cases s with
    | none => rfl
    | some s => cases s <;> rfl
theorem ev_ice {t : TDS U} : dIce i t D ρ w = onO (getS ρ i) fun xs => t D (ρ.set i (some (.d (.lst xs)))) w := by
  rw [getS_eq]; unfold dIce
  cases ρ[i]? with
  | none => rfl
  | some s => cases s with
    | none => rfl
    | some s => cases s <;> rfl
theorem ev_app : dApp i ta D ρ w = onO (getS ρ i) fun xs => ta ρ w fun x w1 => xs.length < sizeLine ∧ D.nx (ρ.set i (some (.own (xs ++ [x])))) w1 := by
  rw [getS_eq]; unfold dApp
  cases ρ[i]? with
  | none => rfl
  | some s => cases s with
    | none => rfl
    | some s => cases s <;> rfl
theorem ev_popAt : dPopAt i ta D ρ w = onO (getS ρ i) fun xs => ta ρ w fun x w1 => onInt x fun k => (0 ≤ k ∧ k < xs.length ∧ k < 2 ^ 63) ∧ D.nx (ρ.set i (some (.own (xs.eraseIdx k.toNat)))) w1 := by
  rw [getS_eq]; unfold dPopAt
  cases ρ[i]? with
  | none => rfl
  | some s => cases s with
    | none => rfl
    | some s => cases s <;> rfl
theorem ev_insert : dInsert i ta tb D ρ w = onO (getS ρ i) fun xs => ta ρ w fun x w1 => tb ρ w1 fun y w2 => onInt x fun k => (xs.length < sizeLine ∧ 0 ≤ k ∧ k < 2 ^ 63) ∧ D.nx (ρ.set i (some (.own (xs.take k.toNat ++ [y] ++ xs.drop k.toNat)))) w2 := by
  rw [getS_eq]; unfold dInsert
  cases ρ[i]? with
  | none => rfl
  | some s => cases s with
    | none => rfl
    | some s => cases s <;> rfl
theorem ev_put : dPut i tb te D ρ w = te ρ w fun y w1 => onO (getS ρ i) fun xs => tb ρ w1 fun x w2 => onInt x fun k => ∃ j, ixN xs.length k = some j ∧ D.nx (ρ.set i (some (.own (xs.set j y)))) w2 := by
  rw [getS_eq]; unfold dPut
  congr 1
  funext y w1
  cases ρ[i]? with
  | none => rfl
  | some s => cases s with
    | none => rfl
    | some s => cases s <;> rfl
theorem ev_ret : dRet ta D ρ w = ta ρ w D.rt := rfl
theorem ev_retN : dRetN D ρ w = D.rt .non w := rfl
theorem ev_set : dSet i ta D ρ w = ta ρ w fun x w1 => D.nx (ρ.set i (some (.d x))) w1 := rfl
theorem ev_setO {t : TDL U} : dSetO i t D ρ w = t ρ w fun xs w1 => D.nx (ρ.set i (some (.own xs))) w1 := rfl
theorem ev_asg {g : TDG U} : dAsg ta g D ρ w = ta ρ w fun x w1 => g x ρ w1 D.nx := rfl
theorem ev_par {t : TDL U} : dPar i j t D ρ w = t ρ w fun xs w1 => match xs with | [x, y] => D.nx ((ρ.set i (some (.d x))).set j (some (.d y))) w1 | _ => False := rfl
theorem ev_ifS {c : TDT U} {t u : TDS U} : dIfS c t u D ρ w = c ρ w fun k w1 => if k = true then t D ρ w1 else u D ρ w1 := rfl
theorem ev_seq {t u : TDS U} : dSeq t u D ρ w = t { D with nx := u D } ρ w := rfl
theorem ev_exp : dExp ta D ρ w = ta ρ w fun _ w1 => D.nx ρ w1 := rfl
theorem ev_next : dNext D ρ w = D.nx ρ w := rfl
theorem ev_pass : dPass D ρ w = D.nx ρ w := rfl
theorem ev_brk : dBrk D ρ w = D.bk ρ w := rfl
theorem ev_cnt : dCnt D ρ w = D.ct ρ w := rfl
theorem ev_for {ti : TDL U} {g : TDG U} {tb : TDS U} : dFor ti g tb D ρ w = ti ρ w fun ds w1 => goF g tb D ds ρ w1 := rfl
theorem ev_c {x : Dt} : dC x ρ w Q = Q x w := rfl
theorem ev_l {t : TDL U} : dL t ρ w Q = t ρ w fun xs w' => Q (.lst xs) w' := rfl
theorem ev_op {g : Dt → Dt → (Dt → Prop) → Prop} : dOp g ta tb ρ w Q = ta ρ w fun x w1 => tb ρ w1 fun y w2 => g x y fun z => Q z w2 := rfl
theorem ev_tst : dTst ta ρ w QT = ta ρ w fun x w1 => onBl x fun k => QT k w1 := rfl
theorem ev_chain {g g' : Dt → Dt → (Dt → Prop) → Prop} : dChain g g' ta tb tc ρ w Q = ta ρ w fun x w1 => tb ρ w1 fun y w2 => g x y fun z => onBl z fun k => if k = true then tc ρ w2 fun u w3 => g' y u fun z' => Q z' w3 else Q (.bl false) w2 := rfl
theorem ev_un {g : Dt → (Dt → Prop) → Prop} : dUn g ta ρ w Q = ta ρ w fun x w1 => g x fun z => Q z w1 := rfl
theorem ev_unL {g : Dt → (List Dt → Prop) → Prop} : dUnL g ta ρ w QL = ta ρ w fun x w1 => g x fun z => QL z w1 := rfl
theorem ev_and {t u : TDT U} : dAnd t u ρ w QT = t ρ w fun k w1 => if k = true then u ρ w1 QT else QT false w1 := rfl
theorem ev_or {t u : TDT U} : dOr t u ρ w QT = t ρ w fun k w1 => if k = true then QT true w1 else u ρ w1 QT := rfl
theorem ev_not {t : TDT U} : dNot t ρ w QT = t ρ w fun k w1 => QT (!k) w1 := rfl
theorem ev_andV : dAndV ta tb ρ w Q = ta ρ w fun x w1 => onBl x fun k => if k = true then tb ρ w1 Q else Q (.bl false) w1 := rfl
theorem ev_orV : dOrV ta tb ρ w Q = ta ρ w fun x w1 => onBl x fun k => if k = true then Q (.bl true) w1 else tb ρ w1 Q := rfl
theorem ev_notV : dNotV ta ρ w Q = ta ρ w fun x w1 => onBl x fun k => Q (.bl (!k)) w1 := rfl
theorem ev_if {t : TDT U} : dIf t ta tb ρ w Q = t ρ w fun k w1 => if k = true then ta ρ w1 Q else tb ρ w1 Q := rfl
theorem ev_nil : dNil ρ w QL = QL [] w := rfl
theorem ev_cons {t : TDL U} : dCons ta t ρ w QL = ta ρ w fun x w1 => t ρ w1 fun xs w2 => QL (x :: xs) w2 := rfl
theorem ev_tup {t : TDL U} : dTup t ρ w Q = t ρ w fun xs w1 => xs.length ≤ sizeLine ∧ Q (.tup xs) w1 := rfl
theorem ev_lst {t : TDL U} : dLst t ρ w QL = t ρ w fun xs w1 => xs.length ≤ sizeLine ∧ QL xs w1 := rfl
theorem ev_none : dNone (U := U) ρ w QO = QO none w := rfl
theorem ev_some : dSome ta ρ w QO = ta ρ w fun x w1 => onInt x fun i => QO (some i) w1 := rfl
theorem ev_sl {tl th : TDO U} : dSl te tl th ρ w Q = te ρ w fun x w1 => tl ρ w1 fun l w2 => th ρ w2 fun u w3 => gSl x l u fun z => Q z w3 := rfl
theorem ev_slL {tl th : TDO U} : dSlL te tl th ρ w QL = te ρ w fun x w1 => tl ρ w1 fun l w2 => th ρ w2 fun u w3 => onLst x fun xs => QL (cutD xs l u) w3 := rfl
theorem ev_revL : dRevL te ρ w QL = te ρ w fun x w1 => onLst x fun xs => QL xs.reverse w1 := rfl
theorem ev_cat : dCat ta tb ρ w QL = ta ρ w fun x w1 => tb ρ w1 fun y w2 => gCat x y fun z => QL z w2 := rfl
theorem ev_call2 {f : Int → Int → Int} : dCall2 f ta tb ρ w Q = ta ρ w fun x w1 => tb ρ w1 fun y w2 => gI0 (fun i j => .int (f i j)) x y fun z => Q z w2 := rfl
theorem ev_comp {ti : TDL U} {g : TDG U} {tt : TDT U} {vs : List Nat} : dComp ti g tt te vs ρ w QL = ti ρ w fun ds w1 => goC g tt te (inR ρ vs) ds [] w1 QL := rfl
theorem ev_iL : diL ta ρ w QL = ta ρ w fun x w1 => onLst x fun xs => QL xs w1 := rfl
theorem ev_iT : diT ta ρ w QL = ta ρ w fun x w1 => onTup x fun xs => QL xs w1 := rfl
theorem ev_iS : diS ta ρ w QL = ta ρ w fun x w1 => onStr x fun s => QL (signs s) w1 := rfl
theorem ev_iR1 {t : TDL U} : diR1 t ρ w QL = t ρ w fun xs w1 => match xs with | [.int j] => (-(2 ^ 62) ≤ j ∧ j < 2 ^ 62) ∧ QL (rngD 0 j.toNat) w1 | _ => False := rfl
theorem ev_iR2 {t : TDL U} : diR2 t ρ w QL = t ρ w fun xs w1 => match xs with | [.int i, .int j] => (-(2 ^ 62) ≤ i ∧ i < 2 ^ 62 ∧ -(2 ^ 62) ≤ j ∧ j < 2 ^ 62) ∧ QL (rngD i (j - i).toNat) w1 | _ => False := rfl
theorem ev_iZ : diZ ta tb ρ w QL = ta ρ w fun x w1 => tb ρ w1 fun y w2 => gZip x y fun z => QL z w2 := rfl
theorem ev_yes : dYes (U := U) ρ w QT = QT true w := rfl
theorem ev_cal {c : Ct U} {t : TDL U} : dCal c t ρ w Q = t ρ w fun ds w1 => c ds w1 Q := rfl
theorem ev_calK {c : List Dt → List Dt → U.W → (Dt → U.W → Prop) → Prop} {t u : TDL U} : dCalK c t u ρ w Q = t ρ w fun ds w1 => u ρ w1 fun zs w2 => c ds zs w2 Q := rfl
theorem ev_m1 {g : Str → Dt → (Dt → Prop) → Prop} : dM1 g ta tb ρ w Q = ta ρ w fun x w1 => onStr x fun a => tb ρ w1 fun y w2 => g a y fun z => Q z w2 := rfl
theorem ev_split : dSplit ta tb ρ w QL = ta ρ w fun x w1 => onStr x fun a => tb ρ w1 fun y w2 => onStr y fun b => ((b.length == 0) = false ∧ a.length + 2 ≤ sizeLine ∧ ∀ s ∈ Txt.split a b, PyData.strOk s = true) ∧ QL ((Txt.split a b).map Dt.str) w2 := rfl
theorem ev_gN {x : Dt} : gN (U := U) i x ρ w QR = QR (ρ.set i (some (.d x))) w := rfl
theorem ev_gT {n : Nat} {t : TDGs U} {x : Dt} : gT n t x ρ w QR = onTup x fun xs => xs.length = n ∧ t xs ρ w QR := rfl
theorem ev_gsNil {xs : List Dt} : gsNil (U := U) xs ρ w QR = match xs with | [] => QR ρ w | _ => False := rfl
theorem ev_gsCons {t : TDG U} {u : TDGs U} {xs : List Dt} : gsCons t u xs ρ w QR = match xs with | x :: r => (t x ρ w fun ρ1 w1 => u r ρ1 w1 QR) | [] => False := rfl
theorem inR_n : inR ρ [] = ρ.map hideS := rfl
theorem inR_c {v : Nat} {vs : List Nat} : inR ρ (v :: vs) = (inR ρ vs).set v none := rfl
theorem hide_d {x : Dt} : hideS (some (.d x)) = some (.d x) := rfl
theorem hide_o {xs : List Dt} : hideS (some (.own xs)) = none := rfl
theorem hide_n : hideS none = none := rfl
end

/-! ### comprehensions that change nothing, or draw -/
section
variable {U : Wd} {te : TD U} {tt : TDT U} {ρ : Rho} {w : U.W} {Q : List Dt → U.W → Prop} {i : Nat}
theorem goC_map (f : Dt → Dt) : ∀ (ds acc : List Dt), (∀ d ∈ ds, ∀ R : Dt → U.W → Prop, R (f d) w → te (ρ.set i (some (.d d))) w R) → acc.length + ds.length ≤ sizeLine → Q (acc ++ ds.map f) w → goC (gN i) dYes te ρ ds acc w Q
  | [], acc, _, _, h => by simpa [goC] using h
  | d :: ds, acc, hd, hz, h => by
    simp only [List.length_cons] at hz
    unfold goC
    simp only [ev_gN, ev_yes, if_true]
    refine hd d (List.mem_cons_self ..) _ ⟨by omega, goC_map f ds _ (fun d' h' => hd d' (List.mem_cons_of_mem _ h')) (by rw [List.length_append, List.length_singleton]; omega) (by simpa using h)⟩
theorem goC_filter (p : Dt → Bool) (f : Dt → Dt) : ∀ (ds acc : List Dt), (∀ d ∈ ds, ∀ R : Bool → U.W → Prop, R (p d) w → tt (ρ.set i (some (.d d))) w R) → (∀ d ∈ ds, p d = true → ∀ R : Dt → U.W → Prop, R (f d) w → te (ρ.set i (some (.d d))) w R) → acc.length + ds.length ≤ sizeLine →
    Q (acc ++ (ds.filter p).map f) w → goC (gN i) tt te ρ ds acc w Q
  | [], acc, _, _, _, h => by simpa [goC] using h
  | d :: ds, acc, hp, hd, hz, h => by
    simp only [List.length_cons] at hz
    unfold goC
    simp only [ev_gN]
    refine hp d (List.mem_cons_self ..) _ ?_
    cases e : p d with
    | true =>
      rw [if_pos rfl]
      refine hd d (List.mem_cons_self ..) e _ ⟨by omega, goC_filter p f ds _ (fun d' h' => hp d' (List.mem_cons_of_mem _ h')) (fun d' h' => hd d' (List.mem_cons_of_mem _ h')) (by rw [List.length_append, List.length_singleton]; omega) (by simpa [List.filter_cons, e] using h)⟩
    | false =>
      rw [if_neg Bool.false_ne_true]
      exact goC_filter p f ds _ (fun d' h' => hp d' (List.mem_cons_of_mem _ h')) (fun d' h' => hd d' (List.mem_cons_of_mem _ h')) (by omega) (by simpa [List.filter_cons, e] using h)
/-- each element some thing of which Pe holds -/
theorem goC_some (Pe : Dt → Prop) : ∀ (ds acc : List Dt), (∀ d ∈ ds, ∀ R : Dt → U.W → Prop, (∀ x, Pe x → R x w) → te (ρ.set i (some (.d d))) w R) → acc.length + ds.length ≤ sizeLine → (∀ x ∈ acc, Pe x) →
    (∀ xs, xs.length = acc.length + ds.length → (∀ x ∈ xs, Pe x) → Q xs w) → goC (gN i) dYes te ρ ds acc w Q
  | [], acc, _, _, ha, h => h acc (by simp) ha
  | d :: ds, acc, hd, hz, ha, h => by
    simp only [List.length_cons] at hz h
    unfold goC
    simp only [ev_gN, ev_yes, if_true]
    refine hd d (List.mem_cons_self ..) _ fun x hx => ⟨by omega, goC_some Pe ds _ (fun d' h' => hd d' (List.mem_cons_of_mem _ h')) (by rw [List.length_append, List.length_singleton]; omega) (fun y hy => ?_) fun xs hl hp => h xs (by rw [hl, List.length_append, List.length_singleton]; omega) hp⟩
    rcases List.mem_append.mp hy with hy | hy
    · exact ha y hy
    · rw [List.mem_singleton.mp hy]; exact hx
end
theorem sub_sign (c : Nat) (z : Str) : subS ⟨#[c]⟩ z = decide (c ∈ z.cps.toList) := by
  exact PySem.StrLaws.found_one z c
end DL

set_option Elab.async false
set_option linter.all false
set_option maxRecDepth 100000
set_option maxHeartbeats 4000000
namespace DL
open PySem L2
def spLaw (K : PySem.W.Frag) : Sp := fun vs H Q _ => ∃ (a : Addr) (ns : List Int), vs = [.ref a] ∧ SqL K H a (ns.map V.int) ∧ ns.length ≤ 63 ∧ ∀ H', Q (.bl true) H'
def upSx (U : Wd) (K : PySem.W.Frag) (t : TDS U) : TS := fun D σ H => ∃ e, upS U K e t D σ H
theorem DSs.x {X : Cx} {U : Wd} {rest : List Stmt} {t : TDS U} (h : DSs X U rest t) : PSs X rest (upSx U X.K t) := ⟨fun pins s σ H D I ⟨e, q⟩ => (h.run e).run pins s σ H D I q⟩
def mkW {Vw : Wd} (T : Addr) (v : Vw.W) : (tpW Vw).W := (some T, v)
/-- THE LAW: tape = [list(script), 0, 0], then the rest -/
theorem ok_law {Vw : Wd} {P : Program} {wd : World} {K : PySem.W.Frag} {mg : Str → Option Value} {base : Heap} {sd : Stmt} {f : Addr} {fd : FuncData} {N : List Str} {k : Nat} {td : TDS (tpW Vw)} {st : Stmt} {rest : List Stmt} (v0 : Vw.W) (hv : ∀ F H, Vw.rep F H v0) (hvf : ∀ a, ¬ Vw.foot v0 a)
    (F : Fun K "law" "law" sd f fd) (S : FnScope ("script" :: "tape" :: N) ["script"] (defScope sd)) (hbd : defBody sd = st :: rest)
    (hst : ∀ (cdv : Value) (A : Around) (outer : List Env) (s : Shared) (H : Hp) (E : XK), PS (cxOf CX0 P wd K mg base ("script" :: "tape" :: N) "law" (defScope sd) f cdv A outer s H E).nox st
      (tAsg (tLst (tCons (tCB (fun xs H Q => ∃ p ys, xs = [.ref p] ∧ (SqL K H p ys ∨ SqT K H p ys) ∧ ∀ l, H l = none → Q (.ref l) (upd H l (.lst ys))) (tCons (tVar 0) tNil)) (tCons (tC (.int 0)) (tCons (tC (.int 0)) tNil)))) (gName 1)))
    (hb : ∀ (cdv : Value) (A : Around) (outer : List Env) (s : Shared) (H : Hp) (E : XK), Room k (A.deeper (PyProof.Rows.envOfC "law" (defScope sd) s.heap.objs.size f cdv)) → DSs (cxOf CX0 P wd K mg base ("script" :: "tape" :: N) "law" (defScope sd) f cdv A outer s H E).nox (tpW Vw) rest td)
    (hq : ∀ T, td { nx := fun _ _ => False, rt := fun x _ => x = .bl true } (none :: some (.d (.ref T)) :: N.map fun _ => none) (mkW T v0)) : FnOk P wd K mg base CX0 (k + 1) f fd ["script"] (spLaw K) := by
  refine F.ok S (fun vs H Q E h => ?_) (fun cdv A outer s H vs Q E hr h => ?_)
  · obtain ⟨a, ns, rfl, _⟩ := h; rfl
  · obtain ⟨a, ns, rfl, hS, hlen, q⟩ := h
    rw [hbd]
    refine ⟨_, pss_cons (hst cdv A outer s H E) (hb cdv A outer s H E hr).x, ?_⟩
    refine ⟨_, rfl, a, _, rfl, .inl hS, fun l hl => ⟨by show 3 ≤ sizeLine; decide, fun T hT => ?_⟩⟩
    have lT : T ≠ l := fun z => by rw [z, upd_same] at hT; cases hT
    -- what is frozen: the script's copy
    let F0 : Hp := fun b => if b = l then some (.lst (ns.map V.int)) else none
    have F0l : F0 l = some (.lst (ns.map V.int)) := if_pos rfl
    have F0n : ∀ b, b ≠ l → F0 b = none := fun b h => if_neg h
    let H2 : Hp := upd (upd H l (.lst (ns.map V.int))) T (.lst [.ref l, .int 0, .int 0])
    have fh : Same F0 H2 := fun b o h => by
      by_cases hb : b = l
      · subst hb
        rw [F0l] at h; cases h
        exact (upd_ne (Ne.symm lT)).trans upd_same
      · rw [F0n b hb] at h; cases h
    have rp : (tpW Vw).rep F0 H2 (some T, v0) := ⟨hv F0 H2, fun T' h => by
      cases h
      exact ⟨⟨F0n T lT, l, ns, 0, 0, upd_same, F0l, Int.le_refl 0⟩, hvf T⟩⟩
    refine ⟨⟨F0, H2, (some T, v0)⟩, F0, none :: some (.d (.ref T)) :: N.map fun _ => none, (some T, v0), { nx := fun _ _ => False, rt := fun x _ => x = .bl true }, ⟨Bas.start fh rp, fun i x h => ?_, fun i xs h => ?_, fun i j xs ys m h => ?_, ?_⟩, hq T, ⟨fun _ _ _ _ _ z => z.elim, fun x v F' w' H' e B s d => ?_, fun _ _ _ _ _ z => z.elim, fun _ _ _ _ _ z => z.elim⟩⟩
    · match i, h with
      | 0, h => cases h
      | 1, h =>
        cases h
        exact ⟨.ref T, rfl, rfl⟩
      | i + 2, h =>
        have h' : (N.map fun _ => (none : Option Slot))[i]? = some (some (.d x)) := h
        rw [List.getElem?_map] at h'
        cases q : N[i]? with
        | none => rw [q] at h'; cases h'
        | some y => rw [q] at h'; cases h'
    · match i, h with
      | 0, h => cases h
      | 1, h => cases h
      | i + 2, h =>
        have h' : (N.map fun _ => (none : Option Slot))[i]? = some (some (.own xs)) := h
        rw [List.getElem?_map] at h'
        cases q : N[i]? with
        | none => rw [q] at h'; cases h'
        | some y => rw [q] at h'; cases h'
    · match i, h with
      | 0, h => cases h
      | 1, h => cases h
      | i + 2, h =>
        have h' : (N.map fun _ => (none : Option Slot))[i]? = some (some (.own xs)) := h
        rw [List.getElem?_map] at h'
        cases q : N[i]? with
        | none => rw [q] at h'; cases h'
        | some y => rw [q] at h'; cases h'
    · simp [L2.start]
    · subst e
      cases (show v = .bl true from d)
      exact q H'
/-! ### sizes -/
mutual
/-- no references; texts and sequences no longer than b -/
def Dt.wf (b : Nat) : Dt → Bool
  | .str s => decide (s.length ≤ b)
  | .tup xs => decide (xs.length ≤ b) && Dt.wfL b xs
  | .lst xs => decide (xs.length ≤ b) && Dt.wfL b xs
  | .ref _ => false
  | _ => true
def Dt.wfL (b : Nat) : List Dt → Bool
  | [] => true
  | x :: xs => x.wf b && Dt.wfL b xs
end
theorem wfL_iff {b : Nat} : ∀ {xs : List Dt}, Dt.wfL b xs = true ↔ ∀ x ∈ xs, x.wf b = true
  | [] => by simp [Dt.wfL]
  | x :: xs => by simp [Dt.wfL, wfL_iff (xs := xs)]
theorem npL_iff : ∀ {xs : List Dt}, Dt.npL xs = true ↔ ∀ x ∈ xs, x.np = true
  | [] => by simp [Dt.npL]
  | x :: xs => by simp [Dt.npL, npL_iff (xs := xs)]
theorem depL_le {n : Nat} : ∀ {xs : List Dt}, Dt.depL xs ≤ n ↔ ∀ x ∈ xs, x.dep ≤ n
  | [] => by simp [Dt.depL]
  | x :: xs => by
    show max x.dep (Dt.depL xs) ≤ n ↔ _
    rw [Nat.max_le, depL_le (xs := xs)]
    simp
mutual
theorem wf_np {b : Nat} : ∀ x : Dt, x.wf b = true → x.np = true
  | .non, _ => rfl
  | .bl _, _ => rfl
  | .int _, _ => rfl
  | .str _, _ => rfl
  | .ref _, h => by cases (show false = true from h)
  | .tup xs, h => wfL_np xs (Bool.and_eq_true_iff.mp (show (decide (xs.length ≤ b) && Dt.wfL b xs) = true from h)).2
  | .lst xs, h => wfL_np xs (Bool.and_eq_true_iff.mp (show (decide (xs.length ≤ b) && Dt.wfL b xs) = true from h)).2
theorem wfL_np {b : Nat} : ∀ xs : List Dt, Dt.wfL b xs = true → Dt.npL xs = true
  | [], _ => rfl
  | x :: xs, h => by
    have h' := Bool.and_eq_true_iff.mp (show (x.wf b && Dt.wfL b xs) = true from h)
    show (x.np && Dt.npL xs) = true
    rw [wf_np x h'.1, wfL_np xs h'.2]; rfl
theorem wf_mono {b c : Nat} (hbc : b ≤ c) : ∀ x : Dt, x.wf b = true → x.wf c = true
  | .non, _ => rfl
  | .bl _, _ => rfl
  | .int _, _ => rfl
  | .str s, h => decide_eq_true (Nat.le_trans (of_decide_eq_true (show decide (s.length ≤ b) = true from h)) hbc)
  | .ref _, h => by cases (show false = true from h)
  | .tup xs, h => by
    have h' := Bool.and_eq_true_iff.mp (show (decide (xs.length ≤ b) && Dt.wfL b xs) = true from h)
    exact Bool.and_eq_true_iff.mpr ⟨decide_eq_true (Nat.le_trans (of_decide_eq_true h'.1) hbc), wfL_mono hbc xs h'.2⟩
  | .lst xs, h => by
    have h' := Bool.and_eq_true_iff.mp (show (decide (xs.length ≤ b) && Dt.wfL b xs) = true from h)
    exact Bool.and_eq_true_iff.mpr ⟨decide_eq_true (Nat.le_trans (of_decide_eq_true h'.1) hbc), wfL_mono hbc xs h'.2⟩
theorem wfL_mono {b c : Nat} (hbc : b ≤ c) : ∀ xs : List Dt, Dt.wfL b xs = true → Dt.wfL c xs = true
  | [], _ => rfl
  | x :: xs, h => by
    have h' := Bool.and_eq_true_iff.mp (show (x.wf b && Dt.wfL b xs) = true from h)
    exact Bool.and_eq_true_iff.mpr ⟨wf_mono hbc x h'.1, wfL_mono hbc xs h'.2⟩
end
theorem wf_ty {b : Nat} {x : Dt} (h : x.wf b = true) : x.ty ≠ none := by
  cases x with
  | ref _ => cases h
  | _ => simp [Dt.ty]
theorem wf_str {b : Nat} {s : Str} (h : (Dt.str s).wf b = true) : s.length ≤ b := of_decide_eq_true (show decide (s.length ≤ b) = true from h)
theorem wf_tup {b : Nat} {xs : List Dt} : (Dt.tup xs).wf b = true ↔ xs.length ≤ b ∧ ∀ x ∈ xs, x.wf b = true := by
  show (decide (xs.length ≤ b) && Dt.wfL b xs) = true ↔ _
  rw [Bool.and_eq_true, decide_eq_true_eq, wfL_iff]
theorem wf_lst {b : Nat} {xs : List Dt} : (Dt.lst xs).wf b = true ↔ xs.length ≤ b ∧ ∀ x ∈ xs, x.wf b = true := by
  show (decide (xs.length ≤ b) && Dt.wfL b xs) = true ↔ _
  rw [Bool.and_eq_true, decide_eq_true_eq, wfL_iff]
theorem dep_tup {n : Nat} {xs : List Dt} : (Dt.tup xs).dep ≤ n + 1 ↔ ∀ x ∈ xs, x.dep ≤ n := by
  show Dt.depL xs + 1 ≤ n + 1 ↔ _
  rw [Nat.add_le_add_iff_right, depL_le]
theorem dep_lst {n : Nat} {xs : List Dt} : (Dt.lst xs).dep ≤ n + 1 ↔ ∀ x ∈ xs, x.dep ≤ n := by
  show Dt.depL xs + 1 ≤ n + 1 ↔ _
  rw [Nat.add_le_add_iff_right, depL_le]
theorem sl1000 {n : Nat} (h : n ≤ 1000000) : n ≤ sizeLine := Nat.le_trans h (by decide)

/-! ### defs with defaults, recursion -/
section
variable {U : Wd} {P : Program} {wd : World} {K : PySem.W.Frag} {mg : Str → Option Value} {base : Heap}
theorem ok_defD {x qual : Str} {params : Arguments} {body : List Stmt} {scope : Scope} {dvs : List V} {kws : List (Str × V)} {f : Addr} {fd : FuncData} {N ps : List Str} {k : Nat} {cc : Ct U} {td : TDS U} (F : FunD K x qual params body scope dvs kws f fd) (S : FnScope N ps scope)
    (hb : ∀ (cdv : Value) (A : Around) (outer : List Env) (s : Shared) (H : Hp) (E : XK), Room k (A.deeper (PyProof.Rows.envOfC qual scope s.heap.objs.size f cdv)) → DSs (cxOf CX0 P wd K mg base N qual scope f cdv A outer s H E).nox U body td)
    (hl : ∀ ds w Q, cc ds w Q → ds.length = ps.length)
    (hq : ∀ ds w Q, cc ds w Q → td { nx := fun _ w' => Q .non w', rt := Q } (startR N ds) w) : FnOk P wd K mg base CX0 (k + 1) f fd ps (spOf U K cc) := by
  have hpl : ps.length ≤ N.length := by have := congrArg List.length S.pre; rw [List.length_take] at this; omega
  refine F.ok S (fun vs H Q E h => ?_) (fun cdv A outer s H vs Q E hr h => ?_)
  · obtain ⟨F0, w, ds, Qd, _, _, d, c, _⟩ := h
    rw [d.length]; exact hl _ _ _ c
  · obtain ⟨F0, w, ds, Qd, fh, rp, d, c, k'⟩ := h
    have dl := hl _ _ _ c
    refine ⟨_, ((hb cdv A outer s H E hr).run ⟨F0, H, w⟩).nox, F0, startR N ds, w, _, rel_start fh rp d (by omega), hq ds w _ c, ?_⟩
    exact ⟨fun F' ρ' w' σ' H' q R s => k' .non .non F' w' H' q R.bas rfl, fun x v F' w' H' q B s d => k' x v F' w' H' q B d, fun F' ρ' w' σ' H' q R s => q.elim, fun F' ρ' w' σ' H' q R s => q.elim⟩
/-- a def of which nothing is asked -/
theorem ok_none {k : Nat} {f : Addr} {fd : FuncData} {ps : List Str} {cc : Ct U} (h : ∀ ds w Q, ¬ cc ds w Q) : FnOk P wd K mg base CX0 k f fd ps (spOf U K cc) := by
  have no : ∀ vs H Q E, ¬ spOf U K cc vs H Q E := fun vs H Q E ⟨_, w, ds, Qd, _, _, _, c, _⟩ => h ds w Qd c
  exact ⟨fun vs H Q E h => absurd h (no vs H Q E), fun A outer s H args us vs Q E _ _ _ _ h => absurd h (no vs H Q E)⟩
/-- all arguments by their places -/
theorem Cal.of {x : Str} {k : Nat} {f : Addr} {fd : FuncData} {ps : List Str} {c : Ct U} (F : FnOk P wd K mg base CX0 k f fd ps (spOf U K c)) (hm : mg x = some (.ref f)) (hk : PySem.W.keepIn K (.ref f) = true) (hb : Binds K fd ps []) : Cal U P wd K mg base x k c :=
  ⟨f, fd, ps, c, [], [], [], F, hm, hk, hb, .nil, fun _ => rfl, fun as w Q h => by rw [List.append_nil]; exact h⟩
/-- the keyword-only ones by their defaults -/
theorem Cal.dfl {x : Str} {k : Nat} {f : Addr} {fd : FuncData} {ps : List Str} {c : Ct U} {ds : List Value} {dvs : List V} {dfl : List Dt} (F : FnOk P wd K mg base CX0 k f fd ps (spOf U K c)) (hm : mg x = some (.ref f)) (hk : PySem.W.keepIn K (.ref f) = true) (hb : Binds K fd ps ds) (hv : Vals dvs ds) (hd : ∀ F, DinL K F dfl dvs) :
    Cal U P wd K mg base x k (fun as w Q => c (as ++ dfl) w Q) := ⟨f, fd, ps, c, ds, dvs, dfl, F, hm, hk, hb, hv, hd, fun _ _ _ h => h⟩
/-- positional arguments and all keyword-only ones -/
theorem CalK.of {x : Str} {k n : Nat} {ks : List Str} {f : Addr} {fd : FuncData} {ps : List Str} {c : Ct U} (F : FnOk P wd K mg base CX0 k f fd ps (spOf U K c)) (hm : mg x = some (.ref f)) (hk : PySem.W.keepIn K (.ref f) = true) (hb : KBn K fd ps n ks (fun us ws => us ++ ws) (fun us ws => us ++ ws)) :
    CalK U P wd K mg base x n ks k (fun as bs w Q => as.length = n ∧ bs.length = ks.length ∧ c (as ++ bs) w Q) :=
  ⟨f, fd, ps, c, _, _, (fun as bs => as ++ bs), F, hm, hk, hb, fun F as bs vs us h1 h2 => h1.append h2, fun _ _ _ _ h => h⟩
theorem kbn_kw {x qual : Str} {params : Arguments} {body : List Stmt} {scope : Scope} {kws : List (Str × V)} {f : Addr} {fd : FuncData} {ps ks : List Str} {n : Nat} (F : FunD K x qual params body scope [] kws f fd)
    (h : ∀ (kV doc pm : Value) (an : Option Addr) (cdv ct : Value) (us ws : List Value), us.length = n → ws.length = ks.length → bindArgs (PySem.W.fnOf x qual params body scope .none kV doc pm an cdv ct) ⟨us, ks.zip ws⟩ = pure (ps.zip (us ++ ws))) :
    KBn K fd ps n ks (fun us ws => us ++ ws) (fun us ws => us ++ ws) := by
  obtain ⟨oc, od, dV, kV, doc, pm, an, cdv, ct, osl, rfl, lk, hcd, hD, _⟩ := F.ex
  rcases hD with ⟨_, rfl⟩ | ⟨e, _⟩
  · exact ⟨fun s us ws _ l1 l2 => .of_eq (h kV doc pm an cdv ct us ws l1 l2), fun r1 r2 => r1.append r2⟩
  · exact absurd rfl e
end
/-! ### == of scalars -/
theorem ev_eqI {i j : Int} {Q : Dt → Prop} : gEq (.int i) (.int j) Q = Q (.bl (decide (i = j))) := by
  refine propext ⟨fun h => h.2.2.2, fun h => ⟨rfl, rfl, .inl (Nat.zero_le _), h⟩⟩
theorem ev_neI {i j : Int} {Q : Dt → Prop} : gNe (.int i) (.int j) Q = Q (.bl (!decide (i = j))) := by
  refine propext ⟨fun h => h.2.2.2, fun h => ⟨rfl, rfl, .inl (Nat.zero_le _), h⟩⟩
theorem ev_eqB {i j : Bool} {Q : Dt → Prop} : gEq (.bl i) (.bl j) Q = Q (.bl (i == j)) := by
  refine propext ⟨fun h => h.2.2.2, fun h => ⟨rfl, rfl, .inl (Nat.zero_le _), h⟩⟩
theorem ev_neB {i j : Bool} {Q : Dt → Prop} : gNe (.bl i) (.bl j) Q = Q (.bl (!(i == j))) := by
  refine propext ⟨fun h => h.2.2.2, fun h => ⟨rfl, rfl, .inl (Nat.zero_le _), h⟩⟩
theorem ev_eqS {i j : Str} {Q : Dt → Prop} : gEq (.str i) (.str j) Q = Q (.bl (decide (i = j))) := by
  have e : (i == j) = decide (i = j) := by
    by_cases h : i = j
    · subst h; simp
    · rw [decide_eq_false h]; exact beq_eq_false_iff_ne.mpr h
  rw [← e]
  refine propext ⟨fun h => h.2.2.2, fun h => ⟨rfl, rfl, .inl (Nat.zero_le _), h⟩⟩
theorem ev_neS {i j : Str} {Q : Dt → Prop} : gNe (.str i) (.str j) Q = Q (.bl (!decide (i = j))) := by
  have e : (i == j) = decide (i = j) := by
    by_cases h : i = j
    · subst h; simp
    · rw [decide_eq_false h]; exact beq_eq_false_iff_ne.mpr h
  rw [← e]
  refine propext ⟨fun h => h.2.2.2, fun h => ⟨rfl, rfl, .inl (Nat.zero_le _), h⟩⟩
theorem isi_non' (f : Dt → Bool) (Q : Dt → Prop)  : gIsi f .non Q = Q (.bl (f .non)) := rfl
theorem isi_bl' (f : Dt → Bool) (Q : Dt → Prop) (a : Bool) : gIsi f (.bl a) Q = Q (.bl (f (.bl a))) := rfl
theorem isi_int' (f : Dt → Bool) (Q : Dt → Prop) (a : Int) : gIsi f (.int a) Q = Q (.bl (f (.int a))) := rfl
theorem isi_str' (f : Dt → Bool) (Q : Dt → Prop) (a : Str) : gIsi f (.str a) Q = Q (.bl (f (.str a))) := rfl
theorem isi_tup' (f : Dt → Bool) (Q : Dt → Prop) (a : List Dt) : gIsi f (.tup a) Q = Q (.bl (f (.tup a))) := rfl
theorem isi_lst' (f : Dt → Bool) (Q : Dt → Prop) (a : List Dt) : gIsi f (.lst a) Q = Q (.bl (f (.lst a))) := rfl
theorem isInt_non  : Dt.isInt .non = false := rfl
theorem isInt_bl (a : Bool) : Dt.isInt (.bl a) = true := rfl
theorem isInt_int (a : Int) : Dt.isInt (.int a) = true := rfl
theorem isInt_str (a : Str) : Dt.isInt (.str a) = false := rfl
theorem isInt_tup (a : List Dt) : Dt.isInt (.tup a) = false := rfl
theorem isInt_lst (a : List Dt) : Dt.isInt (.lst a) = false := rfl
theorem isBl_non  : Dt.isBl .non = false := rfl
theorem isBl_bl (a : Bool) : Dt.isBl (.bl a) = true := rfl
theorem isBl_int (a : Int) : Dt.isBl (.int a) = false := rfl
theorem isBl_str (a : Str) : Dt.isBl (.str a) = false := rfl
theorem isBl_tup (a : List Dt) : Dt.isBl (.tup a) = false := rfl
theorem isBl_lst (a : List Dt) : Dt.isBl (.lst a) = false := rfl
theorem isStr_non  : Dt.isStr .non = false := rfl
theorem isStr_bl (a : Bool) : Dt.isStr (.bl a) = false := rfl
theorem isStr_int (a : Int) : Dt.isStr (.int a) = false := rfl
theorem isStr_str (a : Str) : Dt.isStr (.str a) = true := rfl
theorem isStr_tup (a : List Dt) : Dt.isStr (.tup a) = false := rfl
theorem isStr_lst (a : List Dt) : Dt.isStr (.lst a) = false := rfl
theorem isTup_non  : Dt.isTup .non = false := rfl
theorem isTup_bl (a : Bool) : Dt.isTup (.bl a) = false := rfl
theorem isTup_int (a : Int) : Dt.isTup (.int a) = false := rfl
theorem isTup_str (a : Str) : Dt.isTup (.str a) = false := rfl
theorem isTup_tup (a : List Dt) : Dt.isTup (.tup a) = true := rfl
theorem isTup_lst (a : List Dt) : Dt.isTup (.lst a) = false := rfl
theorem isLst_non  : Dt.isLst .non = false := rfl
theorem isLst_bl (a : Bool) : Dt.isLst (.bl a) = false := rfl
theorem isLst_int (a : Int) : Dt.isLst (.int a) = false := rfl
theorem isLst_str (a : Str) : Dt.isLst (.str a) = false := rfl
theorem isLst_tup (a : List Dt) : Dt.isLst (.tup a) = false := rfl
theorem isLst_lst (a : List Dt) : Dt.isLst (.lst a) = true := rfl
theorem isN_non  : Dt.isN .non = true := rfl
theorem isN_bl (a : Bool) : Dt.isN (.bl a) = false := rfl
theorem isN_int (a : Int) : Dt.isN (.int a) = false := rfl
theorem isN_str (a : Str) : Dt.isN (.str a) = false := rfl
theorem isN_tup (a : List Dt) : Dt.isN (.tup a) = false := rfl
theorem isN_lst (a : List Dt) : Dt.isN (.lst a) = false := rfl
theorem gIsi_of {f : Dt → Bool} {x : Dt} {Q : Dt → Prop} (h : x.ty ≠ none) : gIsi f x Q = Q (.bl (f x)) := by cases x <;> first | rfl | exact absurd rfl h
theorem atI_0 {a : Dt} {r : List Dt} : atI (a :: r) 0 = some a := atI_nat (xs := a :: r) (j := 0) rfl
theorem atI_1 {a b : Dt} {r : List Dt} : atI (a :: b :: r) 1 = some b := atI_nat (xs := a :: b :: r) (j := 1) rfl
theorem atI_2 {a b c : Dt} {r : List Dt} : atI (a :: b :: c :: r) 2 = some c := atI_nat (xs := a :: b :: c :: r) (j := 2) rfl
theorem atI_3 {a b c d : Dt} {r : List Dt} : atI (a :: b :: c :: d :: r) 3 = some d := atI_nat (xs := a :: b :: c :: d :: r) (j := 3) rfl
theorem atI_4 {a b c d e : Dt} {r : List Dt} : atI (a :: b :: c :: d :: e :: r) 4 = some e := atI_nat (xs := a :: b :: c :: d :: e :: r) (j := 4) rfl
theorem atI_5 {a b c d e f : Dt} {r : List Dt} : atI (a :: b :: c :: d :: e :: f :: r) 5 = some f := atI_nat (xs := a :: b :: c :: d :: e :: f :: r) (j := 5) rfl
theorem atI_6 {a b c d e f g : Dt} {r : List Dt} : atI (a :: b :: c :: d :: e :: f :: g :: r) 6 = some g := atI_nat (xs := a :: b :: c :: d :: e :: f :: g :: r) (j := 6) rfl
theorem atI_7 {a b c d e f g h : Dt} {r : List Dt} : atI (a :: b :: c :: d :: e :: f :: g :: h :: r) 7 = some h := atI_nat (xs := a :: b :: c :: d :: e :: f :: g :: h :: r) (j := 7) rfl
theorem atI_8 {a b c d e f g h i : Dt} {r : List Dt} : atI (a :: b :: c :: d :: e :: f :: g :: h :: i :: r) 8 = some i := atI_nat (xs := a :: b :: c :: d :: e :: f :: g :: h :: i :: r) (j := 8) rfl
theorem atI_9 {a b c d e f g h i j : Dt} {r : List Dt} : atI (a :: b :: c :: d :: e :: f :: g :: h :: i :: j :: r) 9 = some j := atI_nat (xs := a :: b :: c :: d :: e :: f :: g :: h :: i :: j :: r) (j := 9) rfl
theorem atI_10 {a b c d e f g h i j k : Dt} {r : List Dt} : atI (a :: b :: c :: d :: e :: f :: g :: h :: i :: j :: k :: r) 10 = some k := atI_nat (xs := a :: b :: c :: d :: e :: f :: g :: h :: i :: j :: k :: r) (j := 10) rfl
theorem len2 {α : Type} {xs : List α} (h : xs.length = 2) : ∃ a b, xs = [a, b] := by
  match xs, h with
  | [a, b], _ => exact ⟨a, b, rfl⟩
theorem len3 {α : Type} {xs : List α} (h : xs.length = 3) : ∃ a b c, xs = [a, b, c] := by
  match xs, h with
  | [a, b, c], _ => exact ⟨a, b, c, rfl⟩
theorem len4 {α : Type} {xs : List α} (h : xs.length = 4) : ∃ a b c d, xs = [a, b, c, d] := by
  match xs, h with
  | [a, b, c, d], _ => exact ⟨a, b, c, d, rfl⟩
theorem len5 {α : Type} {xs : List α} (h : xs.length = 5) : ∃ a b c d e, xs = [a, b, c, d, e] := by
  match xs, h with
  | [a, b, c, d, e], _ => exact ⟨a, b, c, d, e, rfl⟩
/-- a test's two ways -/
theorem ite_b {b : Bool} {p q : Prop} (h1 : b = true → p) (h2 : b = false → q) : if b = true then p else q := by
  cases b with
  | true => rw [if_pos rfl]; exact h1 rfl
  | false => rw [if_neg Bool.false_ne_true]; exact h2 rfl
theorem onBl_of {b : Bool} {k : Bool → Prop} (h : k b) : onBl (.bl b) k := h
theorem eqd_nil {xs : List Dt} : eqd (.lst xs) (.lst []) = xs.isEmpty := by cases xs <;> rfl
theorem ev_eqN {xs : List Dt} {Q : Dt → Prop} (h : Dt.npL xs = true) : gEq (.lst xs) (.lst []) Q = Q (.bl xs.isEmpty) := by
  rw [← eqd_nil]
  exact propext ⟨fun h => h.2.2.2, fun q => ⟨h, rfl, .inr (by decide), q⟩⟩
theorem ev_neN {xs : List Dt} {Q : Dt → Prop} (h : Dt.npL xs = true) : gNe (.lst xs) (.lst []) Q = Q (.bl (!xs.isEmpty)) := by
  rw [← eqd_nil]
  exact propext ⟨fun h => h.2.2.2, fun q => ⟨h, rfl, .inr (by decide), q⟩⟩
/-! the same kinds all through, and equal -/
mutual
def same : Dt → Dt → Bool
  | .non, .non => true
  | .bl a, .bl b => a == b
  | .int a, .int b => decide (a = b)
  | .str a, .str b => decide (a = b)
  | .tup xs, .tup ys => sameL xs ys
  | .lst xs, .lst ys => sameL xs ys
  | _, _ => false
def sameL : List Dt → List Dt → Bool
  | [], [] => true
  | x :: xs, y :: ys => same x y && sameL xs ys
  | _, _ => false
end
mutual
theorem same_iff : ∀ x y : Dt, x.np = true → (same x y = true ↔ x = y)
  | .non, y, _ => by cases y <;> simp [same]
  | .bl a, y, _ => by cases y <;> simp [same]
  | .int a, y, _ => by cases y <;> simp [same]
  | .str a, y, _ => by cases y <;> simp [same]
  | .ref _, _, h => by cases (show false = true from h)
  | .tup xs, y, h => by
    cases y with
    | tup ys =>
      show sameL xs ys = true ↔ _
      rw [sameL_iff xs ys h, Dt.tup.injEq]
    | _ => simp [same]
  | .lst xs, y, h => by
    cases y with
    | lst ys =>
      show sameL xs ys = true ↔ _
      rw [sameL_iff xs ys h, Dt.lst.injEq]
    | _ => simp [same]
theorem sameL_iff : ∀ xs ys : List Dt, Dt.npL xs = true → (sameL xs ys = true ↔ xs = ys)
  | [], ys, _ => by cases ys <;> simp [sameL]
  | x :: xs, ys, h => by
    have h' := Bool.and_eq_true_iff.mp (show (x.np && Dt.npL xs) = true from h)
    cases ys with
    | nil => simp [sameL]
    | cons y ys =>
      show (same x y && sameL xs ys) = true ↔ _
      rw [Bool.and_eq_true, same_iff x y h'.1, sameL_iff xs ys h'.2, List.cons.injEq]
end
theorem same_refl (x : Dt) (h : x.np = true) : same x x = true := (same_iff x x h).mpr rfl
end DL

set_option Elab.async false
set_option linter.all false
set_option maxRecDepth 100000
set_option maxHeartbeats 4000000
namespace DL
open PySem L2
theorem bb_tt : (true == true) = true := rfl
theorem bb_ff : (false == false) = true := rfl
theorem bb_tf : (true == false) = false := rfl
theorem bb_ft : (false == true) = false := rfl
theorem gEq_of {x y : Dt} {Q : Dt → Prop} (h1 : x.np = true) (h2 : y.np = true) (h3 : x.dep ≤ 64 ∨ y.dep ≤ 64) (h : Q (.bl (eqd x y))) : gEq x y Q := ⟨h1, h2, h3, h⟩
theorem gNe_of {x y : Dt} {Q : Dt → Prop} (h1 : x.np = true) (h2 : y.np = true) (h3 : x.dep ≤ 64 ∨ y.dep ≤ 64) (h : Q (.bl (!eqd x y))) : gNe x y Q := ⟨h1, h2, h3, h⟩
theorem at_nat {xs : List Dt} {k : Nat} (h : k < xs.length) : atI xs (k : Int) = some xs[k] := atI_nat (List.getElem?_eq_getElem h)
theorem at_mem {xs : List Dt} {n : Int} (h0 : 0 ≤ n) (h1 : n < xs.length) : ∃ z, z ∈ xs ∧ atI xs n = some z := by
  obtain ⟨k, rfl⟩ : ∃ k : Nat, n = k := ⟨n.toNat, by omega⟩
  have hk : k < xs.length := by omega
  exact ⟨xs[k], List.getElem_mem hk, at_nat hk⟩
theorem dec_len {a b : Nat} : decide ((a : Int) = (b : Int)) = decide (a = b) := by
  by_cases h : a = b
  · subst h; simp
  · rw [decide_eq_false h, decide_eq_false (by omega)]
theorem npL_rng {lo : Int} {n : Nat} : Dt.npL (rngD lo n) = true := npL_iff.mpr fun x h => by
  obtain ⟨k, _, rfl⟩ := List.mem_map.mp (show x ∈ (List.range n).map _ from h); rfl
theorem mem_rng {lo : Int} {n : Nat} {x : Dt} (h : x ∈ rngD lo n) : ∃ k : Nat, k < n ∧ x = .int (lo + k) := by
  obtain ⟨k, hk, rfl⟩ := List.mem_map.mp (show x ∈ (List.range n).map _ from h)
  exact ⟨k, List.mem_range.mp hk, rfl⟩
theorem len_rng {lo : Int} {n : Nat} : (rngD lo n).length = n := by simp [rngD]
theorem npL_filter {p : Dt → Bool} {xs : List Dt} (h : Dt.npL xs = true) : Dt.npL (xs.filter p) = true := npL_iff.mpr fun x hx => npL_iff.mp h x (List.mem_filter.mp hx).1
/-- sameL by the places -/
theorem sameL_at : ∀ (xs ys : List Dt), xs.length = ys.length → (sameL xs ys = true ↔ ∀ k (h1 : k < xs.length) (h2 : k < ys.length), same xs[k] ys[k] = true)
  | [], [], _ => by simp [sameL]
  | [], _ :: _, h => by simp at h
  | _ :: _, [], h => by simp at h
  | x :: xs, y :: ys, h => by
    have h' : xs.length = ys.length := by simpa using h
    show (same x y && sameL xs ys) = true ↔ _
    rw [Bool.and_eq_true, sameL_at xs ys h']
    constructor
    · rintro ⟨a, b⟩ k h1 h2
      cases k with
      | zero => exact a
      | succ k => exact b k (by simpa using h1) (by simpa using h2)
    · intro a
      refine ⟨a 0 (by simp) (by simp), fun k h1 h2 => ?_⟩
      exact a (k + 1) (by simpa using h1) (by simpa using h2)
theorem isEmpty_filter {p : Dt → Bool} {xs : List Dt} : (xs.filter p).isEmpty = xs.all fun x => !p x := by
  induction xs with
  | nil => rfl
  | cons x xs ih =>
    rw [List.filter_cons, List.all_cons]
    cases e : p x
    · simp only [Bool.false_eq_true, if_false, ih]; rfl
    · rfl
theorem like_idx {xs ys : List Dt} {p : Dt → Bool} (hl : xs.length = ys.length) (hp : ∀ (k : Nat) (h1 : k < xs.length) (h2 : k < ys.length), p (.int (0 + (k : Nat))) = !same xs[k] ys[k]) : ((rngD 0 xs.length).filter p).isEmpty = sameL xs ys := by
  rw [isEmpty_filter, Bool.eq_iff_iff, sameL_at xs ys hl, List.all_eq_true]
  constructor
  · intro h k h1 h2
    have := h (.int (0 + (k : Nat))) (List.mem_map.mpr ⟨k, List.mem_range.mpr h1, rfl⟩)
    rw [hp k h1 h2, Bool.not_not] at this
    exact this
  · intro h x hx
    obtain ⟨k, hk, rfl⟩ := mem_rng hx
    rw [hp k hk (by omega), Bool.not_not]
    exact h k hk (by omega)
theorem sameL_len {xs ys : List Dt} (h : xs.length ≠ ys.length) : sameL xs ys = false := by
  cases e : sameL xs ys with
  | false => rfl
  | true =>
    exfalso
    revert ys
    induction xs with
    | nil => intro ys h e; cases ys <;> simp [sameL] at *
    | cons x xs ih =>
      intro ys h e
      cases ys with
      | nil => simp [sameL] at e
      | cons y ys =>
        have e' : (same x y && sameL xs ys) = true := e
        exact ih (by simpa using h) (Bool.and_eq_true_iff.mp e').2
/-- the value at a place, for functions over places -/
def nthD (xs : List Dt) (x : Dt) : Dt := match x with
  | .int k => (xs[k.toNat]?).getD .non
  | _ => .non
theorem nthD_at {xs : List Dt} {k : Nat} (h : k < xs.length) : nthD xs (.int (0 + (k : Nat))) = xs[k] := by
  show (xs[(0 + (k : Int)).toNat]?).getD .non = _
  have : (0 + (k : Int)).toNat = k := by omega
  rw [this, List.getElem?_eq_getElem h]; rfl
theorem cDraw_eq {Vw : Wd} {T : Addr} {v : Vw.W} {m : Int} {Q : Dt → (tpW Vw).W → Prop} : cDraw Vw [.ref T, .int m] (mkW T v) Q = (1 ≤ m ∧ m ≤ 10000000000000 ∧ ∀ n : Int, 0 ≤ n → n < m → Q (.int n) (mkW T v)) := by
  refine propext ⟨?_, fun h => ⟨T, m, rfl, rfl, h⟩⟩
  rintro ⟨T', m', h1, h2, h3, h4, h5⟩
  cases h2
  exact ⟨h3, h4, h5⟩
theorem dep_tupN {n : Nat} {xs : List Dt} : (Dt.tup xs).dep ≤ n ↔ 1 ≤ n ∧ ∀ x ∈ xs, x.dep ≤ n - 1 := by
  cases n with
  | zero => constructor
            · intro h; exact absurd h (by show ¬ Dt.depL xs + 1 ≤ 0; omega)
            · intro h; omega
  | succ n => rw [dep_tup]; simp
theorem dep_lstN {n : Nat} {xs : List Dt} : (Dt.lst xs).dep ≤ n ↔ 1 ≤ n ∧ ∀ x ∈ xs, x.dep ≤ n - 1 := by
  cases n with
  | zero => constructor
            · intro h; exact absurd h (by show ¬ Dt.depL xs + 1 ≤ 0; omega)
            · intro h; omega
  | succ n => rw [dep_lst]; simp
theorem bas_dep : (Dt.non).dep = 0 ∧ (∀ b, (Dt.bl b).dep = 0) ∧ (∀ i, (Dt.int i).dep = 0) ∧ ∀ s, (Dt.str s).dep = 0 := ⟨rfl, fun _ => rfl, fun _ => rfl, fun _ => rfl⟩
theorem ix_t {xs : List Dt} {k : Nat} {R : Dt → Prop} (h : k < xs.length) (r : R xs[k]) : gIx (.tup xs) (.int (0 + (k : Nat))) R := ⟨_, (by rw [Int.zero_add]; exact at_nat h), r⟩
theorem ix_l {xs : List Dt} {k : Nat} {R : Dt → Prop} (h : k < xs.length) (r : R xs[k]) : gIx (.lst xs) (.int (0 + (k : Nat))) R := ⟨_, (by rw [Int.zero_add]; exact at_nat h), r⟩
theorem at_ex {xs : List Dt} {n : Int} {Q : Dt → Prop} (h0 : 0 ≤ n) (h1 : n < xs.length) (h : ∀ z ∈ xs, Q z) : ∃ v, atI xs n = some v ∧ Q v := by
  obtain ⟨z, hz, e⟩ := at_mem h0 h1
  exact ⟨z, e, h z hz⟩
theorem at_k {xs : List Dt} {n : Int} {Q : Dt → Prop} (h0 : 0 ≤ n) (h1 : n < xs.length) (h : ∀ k : Nat, (e : n = k) → (hk : k < xs.length) → Q xs[k]) : ∃ v, atI xs n = some v ∧ Q v := by
  obtain ⟨k, rfl⟩ : ∃ k : Nat, n = k := ⟨n.toNat, by omega⟩
  have hk : k < xs.length := by omega
  exact ⟨xs[k], at_nat hk, h k rfl hk⟩
theorem gIx_l {xs : List Dt} {n : Int} {Q : Dt → Prop} (h0 : 0 ≤ n) (h1 : n < xs.length) (h : ∀ z ∈ xs, Q z) : gIx (.lst xs) (.int n) Q := at_ex h0 h1 h
theorem gIx_t {xs : List Dt} {n : Int} {Q : Dt → Prop} (h0 : 0 ≤ n) (h1 : n < xs.length) (h : ∀ z ∈ xs, Q z) : gIx (.tup xs) (.int n) Q := at_ex h0 h1 h
theorem str_ex {s : Str} {n : Int} {Q : Str → Prop} (h0 : 0 ≤ n) (h1 : n < s.length) (h : ∀ c ∈ s.cps.toList, Q ⟨#[c]⟩) : ∃ z, strAt s n = some z ∧ Q z := by
  obtain ⟨k, rfl⟩ : ∃ k : Nat, n = k := ⟨n.toNat, by omega⟩
  have hk : k < s.cps.toList.length := by have : s.length = s.cps.toList.length := rfl; omega
  refine ⟨⟨#[s.cps.toList[k]]⟩, ?_, h _ (List.getElem_mem hk)⟩
  unfold strAt
  rw [atI_nat (List.getElem?_eq_getElem hk)]; rfl
/-- texts of one sign each -/
def one (c : Nat) : Str := ⟨#[c]⟩
theorem ones_of {A : List Nat} : ∀ {xs : List Dt}, (∀ x ∈ xs, ∃ c ∈ A, x = .str (one c)) → ∃ cs : List Nat, xs = (cs.map one).map Dt.str ∧ ∀ c ∈ cs, c ∈ A
  | [], _ => ⟨[], rfl, fun _ h => by cases h⟩
  | x :: xs, h => by
    obtain ⟨c, hc, rfl⟩ := h x (List.mem_cons_self ..)
    obtain ⟨cs, rfl, hcs⟩ := ones_of (xs := xs) fun y hy => h y (List.mem_cons_of_mem _ hy)
    exact ⟨c :: cs, rfl, fun d hd => (List.mem_cons.mp hd).elim (fun e => e ▸ hc) (hcs d)⟩
theorem joinL_ones : ∀ cs : List Nat, TL.joinL [] (cs.map fun c => [c]) = cs
  | [] => rfl
  | [c] => rfl
  | c :: d :: cs => by
    show [c] ++ ([] ++ TL.joinL [] ((d :: cs).map fun c => [c])) = _
    rw [joinL_ones (d :: cs)]; rfl
theorem join_ones (cs : List Nat) : Txt.join (⟨#[]⟩ : Str) (cs.map one) = ⟨cs.toArray⟩ := by
  have e := SX.join_S [] (cs.map fun c => [c])
  rw [joinL_ones, List.map_map] at e
  exact e
theorem sum_ones : ∀ cs : List Nat, ((cs.map one).map fun x => x.length).sum = cs.length
  | [] => rfl
  | c :: cs => by
    show 1 + ((cs.map one).map fun x => x.length).sum = cs.length + 1
    rw [sum_ones cs]; omega
theorem sz0 : ([] : List Dt).length ≤ sizeLine ↔ True := ⟨fun _ => trivial, fun _ => Nat.le_trans (Nat.le_of_ble_eq_true rfl : _ ≤ 100) (by decide)⟩
theorem sz1 {x0 : Dt} : ([x0] : List Dt).length ≤ sizeLine ↔ True := ⟨fun _ => trivial, fun _ => Nat.le_trans (Nat.le_of_ble_eq_true rfl : _ ≤ 100) (by decide)⟩
theorem sz2 {x0 x1 : Dt} : ([x0, x1] : List Dt).length ≤ sizeLine ↔ True := ⟨fun _ => trivial, fun _ => Nat.le_trans (Nat.le_of_ble_eq_true rfl : _ ≤ 100) (by decide)⟩
theorem sz3 {x0 x1 x2 : Dt} : ([x0, x1, x2] : List Dt).length ≤ sizeLine ↔ True := ⟨fun _ => trivial, fun _ => Nat.le_trans (Nat.le_of_ble_eq_true rfl : _ ≤ 100) (by decide)⟩
theorem sz4 {x0 x1 x2 x3 : Dt} : ([x0, x1, x2, x3] : List Dt).length ≤ sizeLine ↔ True := ⟨fun _ => trivial, fun _ => Nat.le_trans (Nat.le_of_ble_eq_true rfl : _ ≤ 100) (by decide)⟩
theorem sz5 {x0 x1 x2 x3 x4 : Dt} : ([x0, x1, x2, x3, x4] : List Dt).length ≤ sizeLine ↔ True := ⟨fun _ => trivial, fun _ => Nat.le_trans (Nat.le_of_ble_eq_true rfl : _ ≤ 100) (by decide)⟩
theorem sz6 {x0 x1 x2 x3 x4 x5 : Dt} : ([x0, x1, x2, x3, x4, x5] : List Dt).length ≤ sizeLine ↔ True := ⟨fun _ => trivial, fun _ => Nat.le_trans (Nat.le_of_ble_eq_true rfl : _ ≤ 100) (by decide)⟩
theorem sz7 {x0 x1 x2 x3 x4 x5 x6 : Dt} : ([x0, x1, x2, x3, x4, x5, x6] : List Dt).length ≤ sizeLine ↔ True := ⟨fun _ => trivial, fun _ => Nat.le_trans (Nat.le_of_ble_eq_true rfl : _ ≤ 100) (by decide)⟩
theorem sz8 {x0 x1 x2 x3 x4 x5 x6 x7 : Dt} : ([x0, x1, x2, x3, x4, x5, x6, x7] : List Dt).length ≤ sizeLine ↔ True := ⟨fun _ => trivial, fun _ => Nat.le_trans (Nat.le_of_ble_eq_true rfl : _ ≤ 100) (by decide)⟩
theorem sz9 {x0 x1 x2 x3 x4 x5 x6 x7 x8 : Dt} : ([x0, x1, x2, x3, x4, x5, x6, x7, x8] : List Dt).length ≤ sizeLine ↔ True := ⟨fun _ => trivial, fun _ => Nat.le_trans (Nat.le_of_ble_eq_true rfl : _ ≤ 100) (by decide)⟩
theorem sz10 {x0 x1 x2 x3 x4 x5 x6 x7 x8 x9 : Dt} : ([x0, x1, x2, x3, x4, x5, x6, x7, x8, x9] : List Dt).length ≤ sizeLine ↔ True := ⟨fun _ => trivial, fun _ => Nat.le_trans (Nat.le_of_ble_eq_true rfl : _ ≤ 100) (by decide)⟩
theorem sz11 {x0 x1 x2 x3 x4 x5 x6 x7 x8 x9 x10 : Dt} : ([x0, x1, x2, x3, x4, x5, x6, x7, x8, x9, x10] : List Dt).length ≤ sizeLine ↔ True := ⟨fun _ => trivial, fun _ => Nat.le_trans (Nat.le_of_ble_eq_true rfl : _ ≤ 100) (by decide)⟩
theorem sz12 {x0 x1 x2 x3 x4 x5 x6 x7 x8 x9 x10 x11 : Dt} : ([x0, x1, x2, x3, x4, x5, x6, x7, x8, x9, x10, x11] : List Dt).length ≤ sizeLine ↔ True := ⟨fun _ => trivial, fun _ => Nat.le_trans (Nat.le_of_ble_eq_true rfl : _ ≤ 100) (by decide)⟩
theorem sz13 {x0 x1 x2 x3 x4 x5 x6 x7 x8 x9 x10 x11 x12 : Dt} : ([x0, x1, x2, x3, x4, x5, x6, x7, x8, x9, x10, x11, x12] : List Dt).length ≤ sizeLine ↔ True := ⟨fun _ => trivial, fun _ => Nat.le_trans (Nat.le_of_ble_eq_true rfl : _ ≤ 100) (by decide)⟩
theorem sz14 {x0 x1 x2 x3 x4 x5 x6 x7 x8 x9 x10 x11 x12 x13 : Dt} : ([x0, x1, x2, x3, x4, x5, x6, x7, x8, x9, x10, x11, x12, x13] : List Dt).length ≤ sizeLine ↔ True := ⟨fun _ => trivial, fun _ => Nat.le_trans (Nat.le_of_ble_eq_true rfl : _ ≤ 100) (by decide)⟩
theorem sz15 {x0 x1 x2 x3 x4 x5 x6 x7 x8 x9 x10 x11 x12 x13 x14 : Dt} : ([x0, x1, x2, x3, x4, x5, x6, x7, x8, x9, x10, x11, x12, x13, x14] : List Dt).length ≤ sizeLine ↔ True := ⟨fun _ => trivial, fun _ => Nat.le_trans (Nat.le_of_ble_eq_true rfl : _ ≤ 100) (by decide)⟩
theorem sz16 {x0 x1 x2 x3 x4 x5 x6 x7 x8 x9 x10 x11 x12 x13 x14 x15 : Dt} : ([x0, x1, x2, x3, x4, x5, x6, x7, x8, x9, x10, x11, x12, x13, x14, x15] : List Dt).length ≤ sizeLine ↔ True := ⟨fun _ => trivial, fun _ => Nat.le_trans (Nat.le_of_ble_eq_true rfl : _ ≤ 100) (by decide)⟩
theorem sz17 {x0 x1 x2 x3 x4 x5 x6 x7 x8 x9 x10 x11 x12 x13 x14 x15 x16 : Dt} : ([x0, x1, x2, x3, x4, x5, x6, x7, x8, x9, x10, x11, x12, x13, x14, x15, x16] : List Dt).length ≤ sizeLine ↔ True := ⟨fun _ => trivial, fun _ => Nat.le_trans (Nat.le_of_ble_eq_true rfl : _ ≤ 100) (by decide)⟩
theorem sz18 {x0 x1 x2 x3 x4 x5 x6 x7 x8 x9 x10 x11 x12 x13 x14 x15 x16 x17 : Dt} : ([x0, x1, x2, x3, x4, x5, x6, x7, x8, x9, x10, x11, x12, x13, x14, x15, x16, x17] : List Dt).length ≤ sizeLine ↔ True := ⟨fun _ => trivial, fun _ => Nat.le_trans (Nat.le_of_ble_eq_true rfl : _ ≤ 100) (by decide)⟩
theorem sz19 {x0 x1 x2 x3 x4 x5 x6 x7 x8 x9 x10 x11 x12 x13 x14 x15 x16 x17 x18 : Dt} : ([x0, x1, x2, x3, x4, x5, x6, x7, x8, x9, x10, x11, x12, x13, x14, x15, x16, x17, x18] : List Dt).length ≤ sizeLine ↔ True := ⟨fun _ => trivial, fun _ => Nat.le_trans (Nat.le_of_ble_eq_true rfl : _ ≤ 100) (by decide)⟩
theorem sz20 {x0 x1 x2 x3 x4 x5 x6 x7 x8 x9 x10 x11 x12 x13 x14 x15 x16 x17 x18 x19 : Dt} : ([x0, x1, x2, x3, x4, x5, x6, x7, x8, x9, x10, x11, x12, x13, x14, x15, x16, x17, x18, x19] : List Dt).length ≤ sizeLine ↔ True := ⟨fun _ => trivial, fun _ => Nat.le_trans (Nat.le_of_ble_eq_true rfl : _ ≤ 100) (by decide)⟩
theorem szle {n : Nat} (h : Nat.ble n 100 = true) : n ≤ sizeLine := Nat.le_trans (Nat.le_of_ble_eq_true h) (by decide)
theorem g_AddI {i j : Int} {Q : Dt → Prop} : gAdd (.int i) (.int j) Q = Q (.int (i + j)) := rfl
theorem g_AddS {i j : Str} {Q : Dt → Prop} : gAdd (.str i) (.str j) Q = (i.length + j.length ≤ sizeLine ∧ Q (.str (i ++ j))) := rfl
theorem g_AddT {xs ys : List Dt} {Q : Dt → Prop} : gAdd (.tup xs) (.tup ys) Q = (xs.length + ys.length ≤ sizeLine ∧ Q (.tup (xs ++ ys))) := rfl
theorem g_I {C : Int → Int → Prop} {f : Int → Int → Dt} {i j : Int} {Q : Dt → Prop} : gI C f (.int i) (.int j) Q = (C i j ∧ Q (f i j)) := rfl
theorem g_I0 {f : Int → Int → Dt} {i j : Int} {Q : Dt → Prop} : gI0 f (.int i) (.int j) Q = Q (f i j) := rfl
theorem g_U {f : Int → Dt} {i : Int} {Q : Dt → Prop} : gU f (.int i) Q = Q (f i) := rfl
theorem g_LtI {i j : Int} {Q : Dt → Prop} : gLt (.int i) (.int j) Q = Q (.bl (decide (i < j))) := rfl
theorem g_LtS {i j : Str} {Q : Dt → Prop} : gLt (.str i) (.str j) Q = Q (.bl (ltS i j)) := rfl
theorem g_InS {i j : Str} {Q : Dt → Prop} : gIn false (.str i) (.str j) Q = Q (.bl (subS i j)) := rfl
theorem g_NotInS {i j : Str} {Q : Dt → Prop} : gIn true (.str i) (.str j) Q = Q (.bl (!subS i j)) := rfl
theorem g_InT {x : Dt} {ys : List Dt} {Q : Dt → Prop} : gIn false x (.tup ys) Q = (x.flat = true ∧ ys.all Dt.flat = true ∧ Q (.bl (ys.any fun z => eqd z x))) := rfl
theorem g_NotInT {x : Dt} {ys : List Dt} {Q : Dt → Prop} : gIn true x (.tup ys) Q = (x.flat = true ∧ ys.all Dt.flat = true ∧ Q (.bl !(ys.any fun z => eqd z x))) := rfl
theorem g_IxT {i : Int} {xs : List Dt} {Q : Dt → Prop} : gIx (.tup xs) (.int i) Q = (∃ v, atI xs i = some v ∧ Q v) := rfl
theorem g_LenT {xs : List Dt} {Q : Dt → Prop} : gLen (.tup xs) Q = Q (.int xs.length) := rfl
theorem g_TupOfT {xs : List Dt} {Q : Dt → Prop} : gTupOf (.tup xs) Q = Q (.tup xs) := rfl
theorem g_SeqT {xs : List Dt} {Q : List Dt → Prop} : gSeq (.tup xs) Q = Q xs := rfl
theorem g_ZipT {xs ys : List Dt} {Q : List Dt → Prop} : gZip (.tup xs) (.tup ys) Q = Q (zipD xs ys) := rfl
theorem g_SlT {xs : List Dt} {l u : Option Int} {Q : Dt → Prop} : gSl (.tup xs) l u Q = Q (.tup (cutD xs l u)) := rfl
theorem g_InL {x : Dt} {ys : List Dt} {Q : Dt → Prop} : gIn false x (.lst ys) Q = (x.flat = true ∧ ys.all Dt.flat = true ∧ Q (.bl (ys.any fun z => eqd z x))) := rfl
theorem g_NotInL {x : Dt} {ys : List Dt} {Q : Dt → Prop} : gIn true x (.lst ys) Q = (x.flat = true ∧ ys.all Dt.flat = true ∧ Q (.bl !(ys.any fun z => eqd z x))) := rfl
theorem g_IxL {i : Int} {xs : List Dt} {Q : Dt → Prop} : gIx (.lst xs) (.int i) Q = (∃ v, atI xs i = some v ∧ Q v) := rfl
theorem g_LenL {xs : List Dt} {Q : Dt → Prop} : gLen (.lst xs) Q = Q (.int xs.length) := rfl
theorem g_TupOfL {xs : List Dt} {Q : Dt → Prop} : gTupOf (.lst xs) Q = Q (.tup xs) := rfl
theorem g_SeqL {xs : List Dt} {Q : List Dt → Prop} : gSeq (.lst xs) Q = Q xs := rfl
theorem g_ZipL {xs ys : List Dt} {Q : List Dt → Prop} : gZip (.lst xs) (.lst ys) Q = Q (zipD xs ys) := rfl
theorem g_SlL {xs : List Dt} {l u : Option Int} {Q : Dt → Prop} : gSl (.lst xs) l u Q = Q (.lst (cutD xs l u)) := rfl
theorem g_SlS {s : Str} {l u : Option Int} {Q : Dt → Prop} : gSl (.str s) l u Q = (s.length ≤ sizeLine ∧ Q (.str (cutS s l u))) := rfl
theorem g_IxS {i : Int} {s : Str} {Q : Dt → Prop} : gIx (.str s) (.int i) Q = (s.length ≤ sizeLine ∧ ∃ z, strAt s i = some z ∧ Q (.str z)) := rfl
theorem g_LenS {s : Str} {Q : Dt → Prop} : gLen (.str s) Q = (s.length ≤ sizeLine ∧ Q (.int s.length)) := rfl
theorem g_IsN {x : Dt} {Q : Dt → Prop} : gIs false x .non Q = Q (.bl x.isN) := rfl
theorem g_IsNotN {x : Dt} {Q : Dt → Prop} : gIs true x .non Q = Q (.bl !x.isN) := rfl
theorem g_Cat {xs ys : List Dt} {Q : List Dt → Prop} : gCat (.lst xs) (.lst ys) Q = (xs.length + ys.length ≤ sizeLine ∧ Q (xs ++ ys)) := rfl
theorem g_Starts {i j : Str} {Q : Dt → Prop} : gStarts i (.str j) Q = Q (.bl (Txt.startswith i j)) := rfl
theorem ixN_of {n j : Nat} (hj : j < n) : ixN n (j : Int) = some j := by
  unfold ixN
  rw [if_pos (by omega), if_pos (by omega)]; rfl
theorem len_catS (a b : Str) : (a ++ b).length = a.length + b.length := Str.length_append a b
theorem sIx_k {n k d : Nat} (h : k ≤ n) : HT.sIx n d (some (k : Int)) = k := by
  rw [HT.sIx_nat]; omega
theorem cut_lo {s : Str} {k : Nat} (h : k ≤ s.length) : (cutS s none (some (k : Int))).cps.toList = s.cps.toList.take k := by
  rw [cutS_toList, sIx_k h]; simp [HT.sIx]
theorem cut_hi {s : Str} {k : Nat} (h : k ≤ s.length) : (cutS s (some (k : Int)) none).cps.toList = s.cps.toList.drop k := by
  rw [cutS_toList, sIx_k h]
  have e : s.length = s.cps.toList.length := rfl
  simp [HT.sIx, e]
  try (rw [List.take_of_length_le]; simp)
theorem cutS_lo {s : Str} {k : Int} (h0 : 0 ≤ k) (h : k ≤ s.length) : (cutS s none (some k)).length + (cutS s (some k) none).length = s.length := by
  obtain ⟨j, rfl⟩ : ∃ j : Nat, k = j := ⟨k.toNat, by omega⟩
  have hj : j ≤ s.length := by omega
  have e1 : (cutS s none (some (j : Int))).length = (s.cps.toList.take j).length := by rw [← cut_lo hj]; rfl
  have e2 : (cutS s (some (j : Int)) none).length = (s.cps.toList.drop j).length := by rw [← cut_hi hj]; rfl
  have e : s.length = s.cps.toList.length := rfl
  rw [e1, e2, List.length_take, List.length_drop]; omega
/-! ### walks with an invariant -/
section
variable {U : Wd} {g : TDG U} {tb : TDS U} {D : DEnds U}
theorem goF_all (I : Rho → U.W → Prop) : ∀ (ds : List Dt) (ρ : Rho) (w : U.W), (∀ d ∈ ds, ∀ ρ w, I ρ w → ∀ R : Rho → U.W → Prop, (∀ ρ' w', I ρ' w' → R ρ' w') → g d ρ w fun ρ1 w1 => tb { D with nx := R, ct := R, bk := D.nx } ρ1 w1) →
    I ρ w → (∀ ρ' w', I ρ' w' → D.nx ρ' w') → goF g tb D ds ρ w
  | [], ρ, w, _, h0, hn => hn ρ w h0
  | d :: ds, ρ, w, h, h0, hn => h d (List.mem_cons_self ..) ρ w h0 (goF g tb D ds) fun ρ' w' h' => goF_all I ds ρ' w' (fun d hd => h d (List.mem_cons_of_mem _ hd)) h' hn
/-- .. by the places -/
theorem goF_idx (I : Nat → Rho → U.W → Prop) (ds : List Dt) : ∀ (n : Nat) (rest : List Dt) (ρ : Rho) (w : U.W), ds.drop n = rest → (∀ (k : Nat) (hk : k < ds.length) ρ w, I k ρ w → ∀ R : Rho → U.W → Prop, (∀ ρ' w', I (k + 1) ρ' w' → R ρ' w') → g ds[k] ρ w fun ρ1 w1 => tb { D with nx := R, ct := R, bk := D.nx } ρ1 w1) →
    I n ρ w → (∀ ρ' w', I (max n ds.length) ρ' w' → D.nx ρ' w') → goF g tb D rest ρ w
  | n, [], ρ, w, e, _, h0, hn => by
    have : ds.length ≤ n := List.drop_eq_nil_iff.mp e
    rw [Nat.max_eq_left this] at hn
    exact hn ρ w h0
  | n, d :: r, ρ, w, e, h, h0, hn => by
    have hk : n < ds.length := by
      rcases Nat.lt_or_ge n ds.length with h | h
      · exact h
      · rw [List.drop_eq_nil_iff.mpr h] at e; cases e
    have e' := List.drop_eq_getElem_cons hk
    rw [e] at e'
    obtain ⟨e1, e2⟩ := List.cons.inj e'
    have := h n hk ρ w h0 (goF g tb D r) fun ρ' w' h' => goF_idx I ds (n + 1) r ρ' w' e2.symm h h' (by rw [Nat.max_eq_right hk]; rw [Nat.max_eq_right (Nat.le_of_lt hk)] at hn; exact hn)
    rw [← e1] at this
    exact this
end
/-- slots that hold no list of their own -/
theorem atI_last {xs : List Dt} {a : Dt} : atI (xs ++ [a]) (-1) = some a := by
  have h : ixN (xs ++ [a]).length (-1) = some xs.length := by
    unfold ixN
    rw [if_neg (by decide), List.length_append, List.length_singleton, if_pos (by omega)]
    congr 1; omega
  unfold atI
  rw [h]
  simp
theorem rng_get {lo : Int} {n k : Nat} (h : k < (rngD lo n).length) : (rngD lo n)[k] = .int (lo + k) := by
  simp [rngD]
theorem mem_cut {xs : List Dt} {l u : Option Int} {x : Dt} (h : x ∈ cutD xs l u) : x ∈ xs := by
  unfold cutD at h
  exact List.mem_of_mem_drop (List.mem_of_mem_take h)
theorem len_cut {xs : List Dt} {l u : Option Int} : (cutD xs l u).length ≤ xs.length := by
  unfold cutD
  simp; omega
theorem goF_rng {U : Wd} {g : TDG U} {tb : TDS U} {D : DEnds U} (I : Nat → Rho → U.W → Prop) (lo : Int) (n : Nat) (ρ : Rho) (w : U.W) (h : ∀ (k : Nat), k < n → ∀ ρ w, I k ρ w → ∀ R : Rho → U.W → Prop, (∀ ρ' w', I (k + 1) ρ' w' → R ρ' w') → g (.int (lo + (k : Nat))) ρ w fun ρ1 w1 => tb { D with nx := R, ct := R, bk := D.nx } ρ1 w1)
    (h0 : I 0 ρ w) (hn : ∀ ρ' w', I n ρ' w' → D.nx ρ' w') : goF g tb D (rngD lo n) ρ w := by
  refine goF_idx I (rngD lo n) 0 _ ρ w List.drop_zero (fun k hk ρ w hI R hR => ?_) h0 fun ρ' w' hI => ?_
  · rw [rng_get]
    exact h k (by rw [len_rng] at hk; exact hk) ρ w hI R hR
  · rw [len_rng, Nat.max_eq_right (Nat.zero_le _)] at hI
    exact hn ρ' w' hI
end DL

set_option Elab.async false
set_option linter.all false
set_option maxRecDepth 100000
set_option maxHeartbeats 4000000
namespace DL
open PySem L2
/-! ### evaluation at the root only -/
def setK (ρ : Rho) (i : Nat) (s : Option Slot) (K : Rho → Prop) : Prop := K (ρ.set i s)
theorem setK_z {a s : Option Slot} {r : Rho} {K : Rho → Prop} : setK (a :: r) 0 s K = K (s :: r) := rfl
theorem setK_s {a s : Option Slot} {r : Rho} {n : Nat} {K : Rho → Prop} : setK (a :: r) (n + 1) s K = setK r n s fun r' => K (a :: r') := rfl
def ownK (ρ : Rho) (i : Nat) (k : List Dt → Prop) : Prop := onO (getS ρ i) k
theorem ownK_z {xs : List Dt} {r : Rho} {k : List Dt → Prop} : ownK (some (.own xs) :: r) 0 k = k xs := rfl
theorem ownK_s {a : Option Slot} {r : Rho} {n : Nat} {k : List Dt → Prop} : ownK (a :: r) (n + 1) k = ownK r n k := rfl
section
variable {U : Wd} {ta tb tc te : TD U} {ρ : Rho} {w : U.W} {Q : Dt → U.W → Prop} {QR : Rho → U.W → Prop} {D : DEnds U} {i j : Nat} {a : Option Slot} {r : Rho} {n : Nat}
theorem ev_v0 {x : Dt} : dVar 0 (some (.d x) :: r) w Q = Q x w := rfl
theorem ev_vs : dVar (n + 1) (a :: r) w Q = dVar n r w Q := rfl
theorem ev_o0 {xs : List Dt} : dOwn 0 (some (.own xs) :: r) w Q = Q (.lst xs) w := rfl
theorem ev_os : dOwn (n + 1) (a :: r) w Q = dOwn n r w Q := rfl
theorem ek_ice {t : TDS U} : dIce i t D ρ w = ownK ρ i fun xs => setK ρ i (some (.d (.lst xs))) fun ρ' => t D ρ' w := ev_ice
theorem ek_app : dApp i ta D ρ w = ownK ρ i fun xs => ta ρ w fun x w1 => xs.length < sizeLine ∧ setK ρ i (some (.own (xs ++ [x]))) fun ρ' => D.nx ρ' w1 := ev_app
theorem ek_popAt : dPopAt i ta D ρ w = ownK ρ i fun xs => ta ρ w fun x w1 => onInt x fun k => (0 ≤ k ∧ k < xs.length ∧ k < 2 ^ 63) ∧ setK ρ i (some (.own (xs.eraseIdx k.toNat))) fun ρ' => D.nx ρ' w1 := ev_popAt
theorem ek_insert : dInsert i ta tb D ρ w = ownK ρ i fun xs => ta ρ w fun x w1 => tb ρ w1 fun y w2 => onInt x fun k => (xs.length < sizeLine ∧ 0 ≤ k ∧ k < 2 ^ 63) ∧ setK ρ i (some (.own (xs.take k.toNat ++ [y] ++ xs.drop k.toNat))) fun ρ' => D.nx ρ' w2 := ev_insert
theorem ek_put : dPut i tb te D ρ w = te ρ w fun y w1 => ownK ρ i fun xs => tb ρ w1 fun x w2 => onInt x fun k => ∃ j, ixN xs.length k = some j ∧ setK ρ i (some (.own (xs.set j y))) fun ρ' => D.nx ρ' w2 := ev_put
theorem ek_set : dSet i ta D ρ w = ta ρ w fun x w1 => setK ρ i (some (.d x)) fun ρ' => D.nx ρ' w1 := rfl
theorem ek_setO {t : TDL U} : dSetO i t D ρ w = t ρ w fun xs w1 => setK ρ i (some (.own xs)) fun ρ' => D.nx ρ' w1 := rfl
theorem ek_par {t : TDL U} : dPar i j t D ρ w = t ρ w fun xs w1 => match xs with | [x, y] => setK ρ i (some (.d x)) (fun ρ' => setK ρ' j (some (.d y)) fun ρ'' => D.nx ρ'' w1) | _ => False := rfl
theorem ek_gN {x : Dt} : gN (U := U) i x ρ w QR = setK ρ i (some (.d x)) fun ρ' => QR ρ' w := rfl
end
/-! places of written rows -/
theorem ex_at0 {x0 : Dt} {r : List Dt} {Q : Dt → Prop} : (∃ v, atI (x0 :: r) 0 = some v ∧ Q v) = Q x0 := propext ⟨fun ⟨v, e, q⟩ => by cases (show some x0 = some v from (atI_nat (j := 0) rfl).symm.trans e); exact q, fun q => ⟨x0, atI_nat (j := 0) rfl, q⟩⟩
theorem ex_at1 {x0 x1 : Dt} {r : List Dt} {Q : Dt → Prop} : (∃ v, atI (x0 :: x1 :: r) 1 = some v ∧ Q v) = Q x1 := propext ⟨fun ⟨v, e, q⟩ => by cases (show some x1 = some v from (atI_nat (j := 1) rfl).symm.trans e); exact q, fun q => ⟨x1, atI_nat (j := 1) rfl, q⟩⟩
theorem ex_at2 {x0 x1 x2 : Dt} {r : List Dt} {Q : Dt → Prop} : (∃ v, atI (x0 :: x1 :: x2 :: r) 2 = some v ∧ Q v) = Q x2 := propext ⟨fun ⟨v, e, q⟩ => by cases (show some x2 = some v from (atI_nat (j := 2) rfl).symm.trans e); exact q, fun q => ⟨x2, atI_nat (j := 2) rfl, q⟩⟩
theorem ex_at3 {x0 x1 x2 x3 : Dt} {r : List Dt} {Q : Dt → Prop} : (∃ v, atI (x0 :: x1 :: x2 :: x3 :: r) 3 = some v ∧ Q v) = Q x3 := propext ⟨fun ⟨v, e, q⟩ => by cases (show some x3 = some v from (atI_nat (j := 3) rfl).symm.trans e); exact q, fun q => ⟨x3, atI_nat (j := 3) rfl, q⟩⟩
theorem ex_at4 {x0 x1 x2 x3 x4 : Dt} {r : List Dt} {Q : Dt → Prop} : (∃ v, atI (x0 :: x1 :: x2 :: x3 :: x4 :: r) 4 = some v ∧ Q v) = Q x4 := propext ⟨fun ⟨v, e, q⟩ => by cases (show some x4 = some v from (atI_nat (j := 4) rfl).symm.trans e); exact q, fun q => ⟨x4, atI_nat (j := 4) rfl, q⟩⟩
theorem ex_at5 {x0 x1 x2 x3 x4 x5 : Dt} {r : List Dt} {Q : Dt → Prop} : (∃ v, atI (x0 :: x1 :: x2 :: x3 :: x4 :: x5 :: r) 5 = some v ∧ Q v) = Q x5 := propext ⟨fun ⟨v, e, q⟩ => by cases (show some x5 = some v from (atI_nat (j := 5) rfl).symm.trans e); exact q, fun q => ⟨x5, atI_nat (j := 5) rfl, q⟩⟩
theorem ex_at6 {x0 x1 x2 x3 x4 x5 x6 : Dt} {r : List Dt} {Q : Dt → Prop} : (∃ v, atI (x0 :: x1 :: x2 :: x3 :: x4 :: x5 :: x6 :: r) 6 = some v ∧ Q v) = Q x6 := propext ⟨fun ⟨v, e, q⟩ => by cases (show some x6 = some v from (atI_nat (j := 6) rfl).symm.trans e); exact q, fun q => ⟨x6, atI_nat (j := 6) rfl, q⟩⟩
theorem ex_at7 {x0 x1 x2 x3 x4 x5 x6 x7 : Dt} {r : List Dt} {Q : Dt → Prop} : (∃ v, atI (x0 :: x1 :: x2 :: x3 :: x4 :: x5 :: x6 :: x7 :: r) 7 = some v ∧ Q v) = Q x7 := propext ⟨fun ⟨v, e, q⟩ => by cases (show some x7 = some v from (atI_nat (j := 7) rfl).symm.trans e); exact q, fun q => ⟨x7, atI_nat (j := 7) rfl, q⟩⟩
theorem ex_at8 {x0 x1 x2 x3 x4 x5 x6 x7 x8 : Dt} {r : List Dt} {Q : Dt → Prop} : (∃ v, atI (x0 :: x1 :: x2 :: x3 :: x4 :: x5 :: x6 :: x7 :: x8 :: r) 8 = some v ∧ Q v) = Q x8 := propext ⟨fun ⟨v, e, q⟩ => by cases (show some x8 = some v from (atI_nat (j := 8) rfl).symm.trans e); exact q, fun q => ⟨x8, atI_nat (j := 8) rfl, q⟩⟩
theorem ex_at9 {x0 x1 x2 x3 x4 x5 x6 x7 x8 x9 : Dt} {r : List Dt} {Q : Dt → Prop} : (∃ v, atI (x0 :: x1 :: x2 :: x3 :: x4 :: x5 :: x6 :: x7 :: x8 :: x9 :: r) 9 = some v ∧ Q v) = Q x9 := propext ⟨fun ⟨v, e, q⟩ => by cases (show some x9 = some v from (atI_nat (j := 9) rfl).symm.trans e); exact q, fun q => ⟨x9, atI_nat (j := 9) rfl, q⟩⟩
theorem ex_at10 {x0 x1 x2 x3 x4 x5 x6 x7 x8 x9 x10 : Dt} {r : List Dt} {Q : Dt → Prop} : (∃ v, atI (x0 :: x1 :: x2 :: x3 :: x4 :: x5 :: x6 :: x7 :: x8 :: x9 :: x10 :: r) 10 = some v ∧ Q v) = Q x10 := propext ⟨fun ⟨v, e, q⟩ => by cases (show some x10 = some v from (atI_nat (j := 10) rfl).symm.trans e); exact q, fun q => ⟨x10, atI_nat (j := 10) rfl, q⟩⟩
/-- a while that has at most m steps to go -/
theorem while_le {U : Wd} {c : TDT U} {tb : TDS U} {D : DEnds U} (I : Nat → Rho → U.W → Prop) (h : ∀ m ρ w, I m ρ w → ∀ R : Rho → U.W → Prop, (∀ ρ' w', m ≠ 0 → I (m - 1) ρ' w' → R ρ' w') → c ρ w fun k w1 => if k = true then tb { D with nx := R, ct := R, bk := D.nx } ρ w1 else D.nx ρ w1) {m : Nat} {ρ : Rho} {w : U.W} (hI : I m ρ w) : dWhile c tb D ρ w := by
  refine ⟨m + 1, ?_⟩
  induction m generalizing ρ w with
  | zero => exact h 0 ρ w hI _ fun _ _ z => absurd rfl z
  | succ m ih => exact h (m + 1) ρ w hI _ fun ρ' w' _ hI' => ih hI'
theorem szlt {n : Nat} (h : n < 1000000) : n < sizeLine := Nat.lt_of_lt_of_le h (by decide)
theorem cutD_lo {xs : List Dt} {k : Nat} (h : k ≤ xs.length) : cutD xs none (some (k : Int)) = xs.take k := by
  unfold cutD
  rw [sIx_k h]; simp [HT.sIx]
theorem cutD_hi {xs : List Dt} {k : Nat} (h : k ≤ xs.length) : cutD xs (some (k : Int)) none = xs.drop k := by
  unfold cutD
  rw [sIx_k h]
  simp [HT.sIx]
  try (rw [List.take_of_length_le]; simp)
theorem isub0 {k : Nat} : (0 : Int) + (k : Int) = (k : Int) := Int.zero_add _
/-! ### from the head -/
theorem fun_of' {K : PySem.W.Frag} {x qual : Str} {st : Stmt} {f : Addr} {fd : FuncData} {kws : List (Str × V)} (F : FunD K x qual (defArgs st) (defBody st) (defScope st) [] kws f fd) : Fun K x qual st f fd := by
  obtain ⟨oc, od, dV, kV, doc, pm, an, cdv, ct, osl, e, l, c, hd, _⟩ := F.ex
  rcases hd with ⟨_, e2⟩ | ⟨e2, _⟩
  · subst e2
    exact ⟨⟨oc, od, kV, doc, pm, an, cdv, ct, osl, e, l, c⟩, F.kp⟩
  · exact absurd rfl e2
theorem gc_int {K : PySem.W.Frag} {mg : Str → Option Value} {x : Str} {i : Int} (h : ∃ t, mg x = some (.int i t)) : GC K mg x (.int i) := by
  obtain ⟨t, e⟩ := h
  exact ⟨.int i, _, e, ⟨t, rfl⟩, fun F => rfl⟩
theorem gc_str {K : PySem.W.Frag} {mg : Str → Option Value} {x z : Str} (ok : PyData.strOk z = true) (h : ∃ t, mg x = some (.str z t)) : GC K mg x (.str z) := by
  obtain ⟨t, e⟩ := h
  exact ⟨.str z, _, e, ⟨t, rfl⟩, fun F => ⟨rfl, ok⟩⟩
end DL

set_option Elab.async false
set_option linter.all false
set_option maxRecDepth 100000
set_option maxHeartbeats 4000000
namespace DL
open PySem L2
section
variable {U : Wd} {X : Cx} {a b : Expr} {pos : Pos} {ta tb : TD U}
theorem DinL.flatRep {K : PySem.W.Frag} {F : Hp} {xs : List Dt} {vs : List V} (h : DinL K F xs vs) : ∀ n : Nat, DinL K F (List.replicate n xs).flatten (List.replicate n vs).flatten
  | 0 => rfl
  | n + 1 => by
    rw [List.replicate_succ, List.replicate_succ, List.flatten_cons, List.flatten_cons]
    exact h.append (DinL.flatRep h n)
/-- tuple * int, twice or more -/
def gRepT (x y : Dt) (Q : Dt → Prop) : Prop := match x, y with
  | .tup xs, .int k => (xs ≠ [] ∧ 2 ≤ k ∧ k ≤ 1000 ∧ xs.length ≤ 1000) ∧ Q (.tup (List.replicate k.toNat xs).flatten)
  | _, _ => False
theorem g_RepT {xs : List Dt} {k : Int} {Q : Dt → Prop} : gRepT (.tup xs) (.int k) Q = ((xs ≠ [] ∧ 2 ≤ k ∧ k ≤ 1000 ∧ xs.length ≤ 1000) ∧ Q (.tup (List.replicate k.toNat xs).flatten)) := rfl
theorem bin_repT {K : PySem.W.Frag} : Bin U K (rRepT K) gRepT := ⟨fun e F ρ w σ H x y v u Q Q' R hx hy q k => by
  unfold gRepT at q
  split at q
  · rename_i xs n
    obtain ⟨p, vs, e1, h1, d1⟩ := hx.tup
    have e2 := hy.int
    subst e1 e2
    obtain ⟨⟨q1, q2, q3, q4⟩, q5⟩ := q
    have l1 := d1.length
    refine ⟨p, n, vs, rfl, rfl, SqT.mono R.bas.fh h1, fun z => q1 ?_, q2, q3, by omega, fun r hr => ?_⟩
    · subst z
      exact List.length_eq_zero_iff.mp l1.symm
    · obtain ⟨R', s'⟩ := R.laid hr (.tup (List.replicate n.toNat vs).flatten)
      exact k _ _ _ _ q5 R' s' ⟨r, _, rfl, .inl (.inl upd_same), DinL.mono s' _ _ (d1.flatRep _)⟩
  · exact q.elim⟩
theorem de_repT (ha : DB X U a ta) (hb : DB X U b tb) : DE X U (.BinOp a .Mult b pos) (dOp gRepT ta tb) := de_op op_repT bin_repT ha hb
end
theorem atI_last2 {xs : List Dt} {a b : Dt} : atI (xs ++ [a, b]) (-2) = some a := by
  have h : ixN (xs ++ [a, b]).length (-2) = some xs.length := by
    unfold ixN
    rw [if_neg (by decide), List.length_append, List.length_cons, List.length_singleton, if_pos (by omega)]
    congr 1; omega
  unfold atI
  rw [h]
  simp
theorem mem2 {x a b : Dt} {P : Dt → Prop} (h : x ∈ [a, b]) (ha : P a) (hb : P b) : P x := by
  simp only [List.mem_cons, List.not_mem_nil, or_false] at h
  rcases h with rfl | rfl
  · exact ha
  · exact hb
end DL

set_option Elab.async false
set_option linter.all false
set_option maxRecDepth 100000
set_option maxHeartbeats 4000000
namespace DL
open PySem L2
/-! ### the order of data -/
mutual
def alk : Dt → Dt → Bool
  | .non, .non => true
  | .bl _, .bl _ => true
  | .int _, .int _ => true
  | .str _, .str _ => true
  | .tup xs, .tup ys => alkL xs ys
  | .lst xs, .lst ys => alkL xs ys
  | _, _ => false
def alkL : List Dt → List Dt → Bool
  | x :: xs, y :: ys => alk x y && alkL xs ys
  | [], _ => true
  | _ :: _, [] => true
end
mutual
theorem alk_py : ∀ x y : Dt, PySem.W.alike x.py y.py = alk x y
  | .non, y => by cases y <;> rfl
  | .bl _, y => by cases y <;> rfl
  | .int _, y => by cases y <;> rfl
  | .str _, y => by cases y <;> rfl
  | .ref _, y => by cases y <;> rfl
  | .tup xs, y => by
    cases y with
    | tup ys => exact alkL_py xs ys
    | _ => rfl
  | .lst xs, y => by
    cases y with
    | lst ys => exact alkL_py xs ys
    | _ => rfl
theorem alkL_py : ∀ xs ys : List Dt, PySem.W.alikeAll (Dt.pyL xs) (Dt.pyL ys) = alkL xs ys
  | [], _ => by
    show PySem.W.alikeAll [] _ = true
    unfold PySem.W.alikeAll; rfl
  | x :: xs, [] => by
    show PySem.W.alikeAll (_ :: _) [] = true
    unfold PySem.W.alikeAll; rfl
  | x :: xs, y :: ys => by
    show (PySem.W.alike x.py y.py && PySem.W.alikeAll (Dt.pyL xs) (Dt.pyL ys)) = (alk x y && alkL xs ys)
    rw [alk_py x y, alkL_py xs ys]
end
mutual
def ltD : Dt → Dt → Bool
  | .bl a, .bl b => !a && b
  | .int a, .int b => decide (a < b)
  | .str a, .str b => decide (a.cps.toList < b.cps.toList)
  | .tup xs, .tup ys => ltDL xs ys
  | .lst xs, .lst ys => ltDL xs ys
  | _, _ => false
def ltDL : List Dt → List Dt → Bool
  | [], [] => false
  | [], _ :: _ => true
  | _ :: _, [] => false
  | x :: xs, y :: ys => if eqd x y = true then ltDL xs ys else ltD x y
end
mutual
theorem ltD_py : ∀ x y : Dt, alk x y = true → PySem.W.dataLt x.py y.py = ltD x y
  | .non, y, h => by
    cases y with
    | non => rfl
    | _ => cases h
  | .bl a, y, h => by
    cases y with
    | bl b =>
      show PySem.W.dataLt (.bool a) (.bool b) = _
      rw [PySem.W.dataLt_bool]
      cases a <;> cases b <;> decide
    | _ => cases h
  | .int a, y, h => by
    cases y with
    | int b => exact PySem.W.dataLt_int a b
    | _ => cases h
  | .str a, y, h => by
    cases y with
    | str b => exact PySem.W.dataLt_str a b
    | _ => cases h
  | .ref _, y, h => by cases y <;> cases h
  | .tup xs, y, h => by
    cases y with
    | tup ys => exact (PySem.W.dataLt_tuple _ _).trans (ltDL_py xs ys h)
    | _ => cases h
  | .lst xs, y, h => by
    cases y with
    | lst ys => exact (PySem.W.dataLt_list _ _).trans (ltDL_py xs ys h)
    | _ => cases h
theorem ltDL_py : ∀ xs ys : List Dt, alkL xs ys = true → PyProof.Rows.lexLt PyProof.Rows.itemOrd (PySem.W.keyToksAll (Dt.pyL xs)) (PySem.W.keyToksAll (Dt.pyL ys)) = ltDL xs ys
  | [], [], _ => by
    show PyProof.Rows.lexLt PyProof.Rows.itemOrd (PySem.W.keyToksAll []) (PySem.W.keyToksAll []) = false
    exact PyProof.Rows.lex_irrefl _
  | [], y :: ys, _ => by
    show PyProof.Rows.lexLt PyProof.Rows.itemOrd (PySem.W.keyToksAll []) (PySem.W.keyToksAll (y.py :: Dt.pyL ys)) = true
    rw [PySem.W.toks_all_cons, show PySem.W.keyToksAll [] = [Sum.inl 0] by rw [PySem.W.keyToksAll]]
    rfl
  | x :: xs, [], _ => by
    show PyProof.Rows.lexLt PyProof.Rows.itemOrd (PySem.W.keyToksAll (x.py :: Dt.pyL xs)) (PySem.W.keyToksAll []) = false
    rw [PySem.W.toks_all_cons, show PySem.W.keyToksAll [] = [Sum.inl 0] by rw [PySem.W.keyToksAll]]
    rfl
  | x :: xs, y :: ys, h => by
    have h' := Bool.and_eq_true_iff.mp (show (alk x y && alkL xs ys) = true from h)
    show PyProof.Rows.lexLt PyProof.Rows.itemOrd (PySem.W.keyToksAll (x.py :: Dt.pyL xs)) (PySem.W.keyToksAll (y.py :: Dt.pyL ys)) = if eqd x y = true then ltDL xs ys else ltD x y
    rw [PySem.W.dataLt_cons (by rw [alk_py]; exact h'.1), ltDL_py xs ys h'.2, ltD_py x y h'.1, eqd_py]
end
/-- as Python data are told apart -/
theorem py_inj : ∀ {x y : Dt}, x.np = true → y.np = true → x.py = y.py → x = y := by
  suffices H : (∀ x y : Dt, x.np = true → y.np = true → x.py = y.py → x = y) from fun {x y} => H x y
  intro x
  induction x using Dt.rec (motive_2 := fun xs => ∀ ys, Dt.npL xs = true → Dt.npL ys = true → Dt.pyL xs = Dt.pyL ys → xs = ys) with
  | non => intro y _ hy e; cases y <;> first | rfl | cases e
  | bl b => intro y _ hy e; cases y <;> first | (cases e; rfl) | cases e
  | int b => intro y _ hy e; cases y <;> first | (cases e; rfl) | cases e
  | str b => intro y _ hy e; cases y <;> first | (cases e; rfl) | cases e
  | ref b => intro y h; cases h
  | tup xs ih =>
    intro y h hy e
    cases y with
    | tup ys => rw [ih ys h hy (PyData.tuple.inj e)]
    | _ => cases e
  | lst xs ih =>
    intro y h hy e
    cases y with
    | lst ys => rw [ih ys h hy (PyData.list.inj e)]
    | _ => cases e
  | nil ys _ _ e =>
    cases ys with
    | nil => rfl
    | cons y ys => cases e
  | cons x xs ihx ih ys h hy e =>
    cases ys with
    | nil => cases e
    | cons y ys =>
      have h' := Bool.and_eq_true_iff.mp (show (x.np && Dt.npL xs) = true from h)
      have hy' := Bool.and_eq_true_iff.mp (show (y.np && Dt.npL ys) = true from hy)
      have e' : x.py :: Dt.pyL xs = y.py :: Dt.pyL ys := e
      obtain ⟨e1, e2⟩ := List.cons.inj e'
      rw [ihx y h'.1 hy'.1 e1, ih ys h'.2 hy'.2 e2]
theorem pyL_map : ∀ xs : List Dt, Dt.pyL xs = xs.map Dt.py
  | [] => rfl
  | x :: xs => by show x.py :: Dt.pyL xs = _; rw [pyL_map xs]; rfl
/-! ### < and > of data -/
def ordOk (x y : Dt) : Prop := x.np = true ∧ y.np = true ∧ alk x y = true ∧ x ≠ .non ∧ (x.dep ≤ 64 ∨ y.dep ≤ 64)
def gLtX (x y : Dt) (Q : Dt → Prop) : Prop := ordOk x y ∧ Q (.bl (ltD x y))
def gGtX (x y : Dt) (Q : Dt → Prop) : Prop := ordOk x y ∧ Q (.bl (ltD y x))
def rLtX (gt : Bool) (K : PySem.W.Frag) : R2 := fun x y H Q => ∃ d e : PyData, Dp K H x d ∧ Dp K H y e ∧ PySem.W.alike d e = true ∧ d ≠ .none ∧ (d.depth ≤ 64 ∨ e.depth ≤ 64) ∧ Q (.bl (if gt then PySem.W.dataLt e d else PySem.W.dataLt d e)) H
theorem alk_comm (x y : Dt) : alk x y = alk y x := by rw [← alk_py, ← alk_py, PySem.W.alike_comm]
section
variable {U : Wd} {X : Cx} {a b : Expr} {pos : Pos} {ta tb : TD U}
theorem op_ltX (hu : X.A.units + 64 < cLine) : OpR X (compareOp .Lt) (rLtX false X.K) := by
  intro pins s σ H x y v u Q I rx ry h
  obtain ⟨d, e, hd, he, al, hn, hm, q⟩ := h
  obtain ⟨as, r1⟩ := Dp.reads I d x v hd rx
  obtain ⟨bs, r2⟩ := Dp.reads I e y u he ry
  exact PySem.W.rcLt_alike d e X.A s v u as bs r1 r2 al hn (by rcases hm with h | h <;> omega) _ _ _ _ ⟨.bl _, H, I, rfl, q⟩
theorem op_gtX (hu : X.A.units + 64 < cLine) : OpR X (compareOp .Gt) (rLtX true X.K) := by
  intro pins s σ H x y v u Q I rx ry h
  obtain ⟨d, e, hd, he, al, hn, hm, q⟩ := h
  obtain ⟨as, r1⟩ := Dp.reads I d x v hd rx
  obtain ⟨bs, r2⟩ := Dp.reads I e y u he ry
  exact PySem.W.rcGt_alike d e X.A s v u as bs r1 r2 al hn (by rcases hm with h | h <;> omega) _ _ _ _ ⟨.bl _, H, I, rfl, q⟩
theorem py_none {x : Dt} (h : x ≠ .non) : x.py ≠ .none := by
  cases x with
  | non => exact absurd rfl h
  | _ => intro z; cases z
theorem bin_ltX {K : PySem.W.Frag} : Bin U K (rLtX false K) gLtX := ⟨fun e F ρ w σ H x y v u Q Q' R hx hy q k => by
  obtain ⟨⟨n1, n2, al, hn, hm⟩, q⟩ := q
  obtain ⟨r1, _⟩ := R.dp hx n1
  obtain ⟨r2, _⟩ := R.dp hy n2
  refine ⟨_, _, r1, r2, by rw [alk_py]; exact al, py_none hn, by rw [dep_py x n1, dep_py y n2]; exact hm, ?_⟩
  rw [if_neg Bool.false_ne_true, ltD_py x y al]
  exact k _ _ F H q R (Same.refl _) rfl⟩
theorem bin_gtX {K : PySem.W.Frag} : Bin U K (rLtX true K) gGtX := ⟨fun e F ρ w σ H x y v u Q Q' R hx hy q k => by
  obtain ⟨⟨n1, n2, al, hn, hm⟩, q⟩ := q
  obtain ⟨r1, _⟩ := R.dp hx n1
  obtain ⟨r2, _⟩ := R.dp hy n2
  refine ⟨_, _, r1, r2, by rw [alk_py]; exact al, py_none hn, by rw [dep_py x n1, dep_py y n2]; exact hm, ?_⟩
  rw [if_pos rfl, ltD_py y x (by rw [alk_comm]; exact al)]
  exact k _ _ F H q R (Same.refl _) rfl⟩
/-! ### min and max of a list of data, the first of them -/
def minDt (x : Dt) (xs : List Dt) : Dt := xs.foldl (fun a y => if ltD y a then y else a) x
def maxDt (x : Dt) (xs : List Dt) : Dt := xs.foldl (fun a y => if ltD a y then y else a) x
theorem fold_mem {f : Dt → Dt → Dt} (hf : ∀ a y, f a y = a ∨ f a y = y) : ∀ (xs : List Dt) (x : Dt), xs.foldl f x = x ∨ xs.foldl f x ∈ xs
  | [], x => .inl rfl
  | y :: ys, x => by
    show List.foldl f (f x y) ys = x ∨ List.foldl f (f x y) ys ∈ y :: ys
    rcases fold_mem hf ys (f x y) with h | h
    · rw [h]
      rcases hf x y with e | e
      · exact .inl e
      · exact .inr (by rw [e]; exact List.mem_cons_self ..)
    · exact .inr (List.mem_cons_of_mem _ h)
theorem minDt_mem (x : Dt) (xs : List Dt) : minDt x xs ∈ x :: xs := by
  rcases fold_mem (f := fun a y => if ltD y a then y else a) (fun a y => by show (if _ then _ else _) = _ ∨ _; split <;> simp) xs x with h | h
  · unfold minDt; rw [h]; exact List.mem_cons_self ..
  · exact List.mem_cons_of_mem _ h
theorem maxDt_mem (x : Dt) (xs : List Dt) : maxDt x xs ∈ x :: xs := by
  rcases fold_mem (f := fun a y => if ltD a y then y else a) (fun a y => by show (if _ then _ else _) = _ ∨ _; split <;> simp) xs x with h | h
  · unfold maxDt; rw [h]; exact List.mem_cons_self ..
  · exact List.mem_cons_of_mem _ h
theorem minDt_py : ∀ (xs : List Dt) (x : Dt), (∀ a ∈ x :: xs, ∀ b ∈ x :: xs, alk a b = true) → PySem.W.minD x.py (Dt.pyL xs) = (minDt x xs).py
  | [], x, _ => rfl
  | y :: ys, x, h => by
    show PySem.W.minD (if PySem.W.dataLt y.py x.py then y.py else x.py) (Dt.pyL ys) = (minDt (if ltD y x then y else x) ys).py
    rw [ltD_py y x (h y (by simp) x (by simp))]
    have e : (if ltD y x = true then y.py else x.py) = (if ltD y x = true then y else x).py := by split <;> rfl
    rw [e]
    refine minDt_py ys _ fun a ha b hb => h a ?_ b ?_
    · rcases List.mem_cons.mp ha with rfl | ha
      · split <;> simp
      · simp [ha]
    · rcases List.mem_cons.mp hb with rfl | hb
      · split <;> simp
      · simp [hb]
theorem maxDt_py : ∀ (xs : List Dt) (x : Dt), (∀ a ∈ x :: xs, ∀ b ∈ x :: xs, alk a b = true) → PySem.W.maxD x.py (Dt.pyL xs) = (maxDt x xs).py
  | [], x, _ => rfl
  | y :: ys, x, h => by
    show PySem.W.maxD (if PySem.W.dataLt x.py y.py then y.py else x.py) (Dt.pyL ys) = (maxDt (if ltD x y then y else x) ys).py
    rw [ltD_py x y (h x (by simp) y (by simp))]
    have e : (if ltD x y = true then y.py else x.py) = (if ltD x y = true then y else x).py := by split <;> rfl
    rw [e]
    refine maxDt_py ys _ fun a ha b hb => h a ?_ b ?_
    · rcases List.mem_cons.mp ha with rfl | ha
      · split <;> simp
      · simp [ha]
    · rcases List.mem_cons.mp hb with rfl | hb
      · split <;> simp
      · simp [hb]
theorem DpAll.get {K : PySem.W.Frag} {H : Hp} : ∀ {vs : List V} {ds : List PyData}, DpAll K H vs ds → ∀ (i : Nat) (v : V), vs[i]? = some v → ∃ d, ds[i]? = some d ∧ Dp K H v d
  | _, _, .nil, i, v, h => by simp at h
  | _, _, .cons h t, 0, v, e => by
    cases (show some _ = some v from e)
    exact ⟨_, rfl, h⟩
  | _, _, .cons h t, i + 1, v, e => DpAll.get t i v e
theorem Vals.get {vs : List V} {us : List Value} (r : Vals vs us) : ∀ (i : Nat) (u : Value), us[i]? = some u → ∃ v, vs[i]? = some v ∧ RelV v u := by
  induction r with
  | nil => intro i u h; simp at h
  | cons h t ih =>
    intro i u e
    cases i with
    | zero =>
      cases (show some _ = some u from e)
      exact ⟨_, rfl, h⟩
    | succ i => exact ih i u e
def rMinX (mx : Bool) (K : PySem.W.Frag) : List V → Hp → VK → Prop := fun vs H Q => ∃ (a : Addr) (xs : List V) (d : PyData) (ds : List PyData), vs = [.ref a] ∧ SqL K H a xs ∧ DpAll K H xs (d :: ds) ∧ PySem.W.AlikeAll (d :: ds) ∧ PyData.depthAll (d :: ds) ≤ 60 ∧
  ∀ (i : Nat) (v : V), xs[i]? = some v → (d :: ds)[i]? = some (if mx then PySem.W.maxD d ds else PySem.W.minD d ds) → Q v H
theorem minD_mem (d : PyData) (ds : List PyData) : PySem.W.minD d ds ∈ d :: ds := by
  induction ds generalizing d with
  | nil => exact List.mem_cons_self ..
  | cons e es ih =>
    have := ih (if PySem.W.dataLt e d then e else d)
    show PySem.W.minD (if PySem.W.dataLt e d then e else d) es ∈ _
    rcases List.mem_cons.mp this with h | h
    · rw [h]; split <;> simp
    · simp [h]
theorem maxD_mem (d : PyData) (ds : List PyData) : PySem.W.maxD d ds ∈ d :: ds := by
  induction ds generalizing d with
  | nil => exact List.mem_cons_self ..
  | cons e es ih =>
    have := ih (if PySem.W.dataLt d e then e else d)
    show PySem.W.maxD (if PySem.W.dataLt d e then e else d) es ∈ _
    rcases List.mem_cons.mp this with h | h
    · rw [h]; split <;> simp
    · simp [h]
theorem cr_minX (hc : X.calm = true) (hu : X.A.units + 64 < cLine) : CallR X (.builtin "min") (rMinX false X.K) := by
  intro pins s σ H vs us Q I r h
  obtain ⟨a, xs, d, ds, rfl, hs, hd, al, hdep, q⟩ := h
  obtain ⟨its, rv, hl, _⟩ := I.list hs
  rw [Vals.ref1 r]
  obtain ⟨as, hr⟩ := Dp.readsAll I _ _ _ hd rv
  refine PySem.W.min_list_data (I.ok.hd hc) hl.isList (by simpa using hr) al (by omega) fun i v h' tk bs hv hrd hk => ?_
  have hv : its[i]? = some v := by simpa using hv
  obtain ⟨x, hx, rx⟩ := Vals.get rv i v hv
  obtain ⟨e, he, hde⟩ := DpAll.get hd i x hx
  obtain ⟨cs, r2⟩ := Dp.reads I e x v hde rx
  have r3 := PyProof.Rows.Reads.keeps hk r2
  have ee : e = PySem.W.minD d ds := PySem.W.alike_unique _ _ _ _ _ (al.1 e (List.mem_of_getElem? he) _ (minD_mem d ds)) r3 hrd
  exact ⟨x, H, I.kept hk, rx, q i x hx (by rw [if_neg Bool.false_ne_true, ← ee]; exact he)⟩
theorem cr_maxX (hc : X.calm = true) (hu : X.A.units + 64 < cLine) : CallR X (.builtin "max") (rMinX true X.K) := by
  intro pins s σ H vs us Q I r h
  obtain ⟨a, xs, d, ds, rfl, hs, hd, al, hdep, q⟩ := h
  obtain ⟨its, rv, hl, _⟩ := I.list hs
  rw [Vals.ref1 r]
  obtain ⟨as, hr⟩ := Dp.readsAll I _ _ _ hd rv
  refine PySem.W.max_list_data (I.ok.hd hc) hl.isList (by simpa using hr) al (by omega) fun i v h' tk bs hv hrd hk => ?_
  have hv : its[i]? = some v := by simpa using hv
  obtain ⟨x, hx, rx⟩ := Vals.get rv i v hv
  obtain ⟨e, he, hde⟩ := DpAll.get hd i x hx
  obtain ⟨cs, r2⟩ := Dp.reads I e x v hde rx
  have r3 := PyProof.Rows.Reads.keeps hk r2
  have ee : e = PySem.W.maxD d ds := PySem.W.alike_unique _ _ _ _ _ (al.1 e (List.mem_of_getElem? he) _ (maxD_mem d ds)) r3 hrd
  exact ⟨x, H, I.kept hk, rx, q i x hx (by rw [if_pos rfl, ← ee]; exact he)⟩
end
end DL

set_option Elab.async false
set_option linter.all false
set_option maxRecDepth 100000
set_option maxHeartbeats 4000000
namespace DL
open PySem L2
theorem DinL.getV {K : PySem.W.Frag} {F : Hp} : ∀ {xs : List Dt} {vs : List V}, DinL K F xs vs → ∀ (i : Nat) (v : V), vs[i]? = some v → ∃ x, xs[i]? = some x ∧ Din K F x v
  | [], vs, h, i, v, e => by
    have : vs = [] := h
    subst this
    simp at e
  | x :: xs, vs, ⟨u, us, h1, h2, h3⟩, i, v, e => by
    subst h1
    cases i with
    | zero =>
      cases (show some u = some v from e)
      exact ⟨x, rfl, h2⟩
    | succ i => exact DinL.getV h3 i v e
def ordAll (xs : List Dt) : Prop := Dt.npL xs = true ∧ (∀ a ∈ xs, ∀ b ∈ xs, alk a b = true) ∧ (∀ a ∈ xs, a ≠ .non) ∧ Dt.depL xs ≤ 60
def gMin (x : Dt) (Q : Dt → Prop) : Prop := match x with
  | .lst (y :: ys) => ordAll (y :: ys) ∧ Q (minDt y ys)
  | _ => False
def gMax (x : Dt) (Q : Dt → Prop) : Prop := match x with
  | .lst (y :: ys) => ordAll (y :: ys) ∧ Q (maxDt y ys)
  | _ => False
theorem alikeAll_of {xs : List Dt} (h : ordAll xs) : PySem.W.AlikeAll (Dt.pyL xs) := by
  obtain ⟨_, h2, h3, _⟩ := h
  rw [pyL_map]
  refine ⟨fun a ha b hb => ?_, fun a ha => ?_⟩
  · obtain ⟨x, hx, rfl⟩ := List.mem_map.mp ha
    obtain ⟨y, hy, rfl⟩ := List.mem_map.mp hb
    rw [alk_py]; exact h2 x hx y hy
  · obtain ⟨x, hx, rfl⟩ := List.mem_map.mp ha
    exact py_none (h3 x hx)
section
variable {U : Wd} {X : Cx} {a : Expr} {ta : TD U}
theorem un_minX {K : PySem.W.Frag} : Un1 U K (rMinX false K) gMin := ⟨fun e F ρ w σ H x v Q Q' R hx q k => by
  unfold gMin at q
  split at q
  · rename_i y ys
    obtain ⟨o, q⟩ := q
    obtain ⟨l, vs, e1, h1, d1⟩ := R.bor hx
    subst e1
    obtain ⟨r1, _⟩ := DinL.dp _ _ (DinL.mono R.bas.fh _ _ d1) o.1
    refine ⟨l, vs, y.py, Dt.pyL ys, rfl, SqL.of h1, r1, alikeAll_of o, by have := depL_py (y :: ys) o.1; have hd := o.2.2.2; show PyData.depthAll (Dt.pyL (y :: ys)) ≤ 60; omega, fun i v hv hi => ?_⟩
    obtain ⟨z, hz, dz⟩ := DinL.getV d1 i v hv
    rw [if_neg Bool.false_ne_true, minDt_py ys y o.2.1] at hi
    have hi2 : (Dt.pyL (y :: ys))[i]? = some (minDt y ys).py := hi
    rw [pyL_map, List.getElem?_map, hz] at hi2
    have e2 : z = minDt y ys := py_inj (npL_iff.mp o.1 z (List.mem_of_getElem? hz)) (npL_iff.mp o.1 _ (minDt_mem y ys)) (Option.some.inj hi2)
    subst e2
    exact k _ _ F H q R (Same.refl _) dz
  · exact q.elim⟩
theorem un_maxX {K : PySem.W.Frag} : Un1 U K (rMinX true K) gMax := ⟨fun e F ρ w σ H x v Q Q' R hx q k => by
  unfold gMax at q
  split at q
  · rename_i y ys
    obtain ⟨o, q⟩ := q
    obtain ⟨l, vs, e1, h1, d1⟩ := R.bor hx
    subst e1
    obtain ⟨r1, _⟩ := DinL.dp _ _ (DinL.mono R.bas.fh _ _ d1) o.1
    refine ⟨l, vs, y.py, Dt.pyL ys, rfl, SqL.of h1, r1, alikeAll_of o, by have := depL_py (y :: ys) o.1; have hd := o.2.2.2; show PyData.depthAll (Dt.pyL (y :: ys)) ≤ 60; omega, fun i v hv hi => ?_⟩
    obtain ⟨z, hz, dz⟩ := DinL.getV d1 i v hv
    rw [if_pos rfl, maxDt_py ys y o.2.1] at hi
    have hi2 : (Dt.pyL (y :: ys))[i]? = some (maxDt y ys).py := hi
    rw [pyL_map, List.getElem?_map, hz] at hi2
    have e2 : z = maxDt y ys := py_inj (npL_iff.mp o.1 z (List.mem_of_getElem? hz)) (npL_iff.mp o.1 _ (maxDt_mem y ys)) (Option.some.inj hi2)
    subst e2
    exact k _ _ F H q R (Same.refl _) dz
  · exact q.elim⟩
theorem de_minL {p2 pos : Pos} (hc : X.calm = true) (hu : X.A.units + 64 < cLine) (hg : Gl X "min") (hm : X.mg "min" = none) (ha : DB X U a ta) (hs : starEach [a] X.env = [(false, eval a X.env)] := by rfl) : DE X U (.Call (.Name "min" p2) [a] [] pos) (dUn gMin ta) :=
  de_callB (cr_minX hc hu) un_minX hg hm (by decide +kernel) ha (hs := hs)
theorem de_maxL {p2 pos : Pos} (hc : X.calm = true) (hu : X.A.units + 64 < cLine) (hg : Gl X "max") (hm : X.mg "max" = none) (ha : DB X U a ta) (hs : starEach [a] X.env = [(false, eval a X.env)] := by rfl) : DE X U (.Call (.Name "max" p2) [a] [] pos) (dUn gMax ta) :=
  de_callB (cr_maxX hc hu) un_maxX hg hm (by decide +kernel) ha (hs := hs)
/-! ### sorted -/
def leD (x y : Dt) : Bool := !ltD y x
def sortD (xs : List Dt) : List Dt := xs.mergeSort leD
def tupNe : Dt → Bool
  | .tup (_ :: _) => true
  | _ => false
def tupNo : Dt → Bool
  | .tup _ => false
  | .non => false
  | _ => true
def srtOk (xs : List Dt) : Prop := Dt.npL xs = true ∧ (∀ a ∈ xs, ∀ b ∈ xs, alk a b = true) ∧ (xs.all tupNe = true ∨ xs.all tupNo = true) ∧ Dt.depL xs ≤ 60
def gSorted (x : Dt) (Q : List Dt → Prop) : Prop := match x with
  | .lst xs => srtOk xs ∧ Q (sortD xs)
  | _ => False
def rSortedX (K : PySem.W.Frag) : List V → Hp → VK → Prop := fun vs H Q => ∃ (a : Addr) (qs : List (Dt × V)), vs = [.ref a] ∧ SqL K H a (qs.map (·.2)) ∧ (∀ q ∈ qs, Dp K H q.2 q.1.py) ∧ srtOk (qs.map (·.1)) ∧
  ∀ l, H l = none → Q (.ref l) (upd H l (.lst ((qs.mergeSort fun p q => leD p.1 q.1).map (·.2))))
theorem sortable_of {xs : List Dt} (h : xs.all tupNe = true ∨ xs.all tupNo = true) : PySem.W.Sortable (xs.map Dt.py) := by
  rcases h with h | h
  · refine .inl fun d hd => ?_
    obtain ⟨x, hx, rfl⟩ := List.mem_map.mp hd
    have := List.all_eq_true.mp h x hx
    cases x with
    | tup ys =>
      cases ys with
      | nil => cases this
      | cons y ys => exact ⟨_, _, rfl⟩
    | _ => cases this
  · refine .inr fun d hd => ?_
    obtain ⟨x, hx, rfl⟩ := List.mem_map.mp hd
    have := List.all_eq_true.mp h x hx
    cases x with
    | tup ys => cases this
    | non => cases this
    | _ => exact ⟨(fun z => by cases z), (fun _ z => by cases z)⟩
theorem each_of {K : PySem.W.Frag} {H : Hp} {X : Cx} {pins : List (Addr × Obj)} {σ : St} {s : Shared} : ∀ (qs : List (Dt × V)) (us : List Value), Vals (qs.map (·.2)) us → PySem.W.EachIs (fun u q => RelV q.2 u) us qs
  | [], us, r => by cases r; exact .nil
  | q :: qs, us, r => by
    cases r with
    | cons h t => exact .cons h (each_of (K := K) (H := H) (X := X) (pins := pins) (σ := σ) (s := s) qs _ t)
theorem EachIs.imp_mem {α β : Type} {R S : α → β → Prop} : ∀ {as : List α} {bs : List β}, PySem.W.EachIs R as bs → (∀ a b, b ∈ bs → R a b → S a b) → PySem.W.EachIs S as bs
  | _, _, .nil, _ => .nil
  | _, _, .cons h t, f => .cons (f _ _ (List.mem_cons_self ..) h) (EachIs.imp_mem t fun a b hb => f a b (List.mem_cons_of_mem _ hb))
theorem vals_each : ∀ {us : List Value} {qs : List (Dt × V)}, PySem.W.EachIs (fun u q => RelV q.2 u) us qs → Vals (qs.map (·.2)) us
  | _, _, .nil => .nil
  | _, _, .cons h t => .cons h (vals_each t)
theorem cr_sortedX (hu : X.A.units + 64 < cLine) : CallR X (.builtin "sorted") (rSortedX X.K) := by
  intro pins s σ H vs us Q I r h
  obtain ⟨a, qs, rfl, hs, hd, ⟨hn, hal, hso, hdep⟩, q⟩ := h
  obtain ⟨its, rv, hl, hz⟩ := I.list hs
  rw [Vals.ref1 r]
  have e := each_of (K := X.K) (H := H) (X := X) (pins := pins) (σ := σ) (s := s) qs its rv
  have hmap : qs.map (fun q : Dt × V => q.1.py) = (qs.map (·.1)).map Dt.py := by rw [List.map_map]; rfl
  refine PySem.W.sorted_data (enc := fun q : Dt × V => q.1.py) hl.isList e (EachIs.imp_mem e fun u q hq hr => Dp.reads I _ _ _ (hd q hq) hr) ?_ ?_ (by simpa using hz) (fun q hq => ?_) fun out hlen he => ?_
  · intro d hdm d' hdm'
    rw [hmap] at hdm hdm'
    obtain ⟨x, hx, rfl⟩ := List.mem_map.mp hdm
    obtain ⟨y, hy, rfl⟩ := List.mem_map.mp hdm'
    rw [alk_py]; exact hal x hx y hy
  · rw [hmap]; exact sortable_of hso
  · have hq1 : q.1 ∈ qs.map (·.1) := List.mem_map.mpr ⟨q, hq, rfl⟩
    have h1 := depL_le.mp hdep q.1 hq1
    have h2 := dep_py q.1 (npL_iff.mp hn q.1 hq1)
    omega
  · obtain ⟨ep, he'⟩ := PyProof.Rows.sortedAll_at s.heap its out.toArray
    have es : qs.mergeSort (PySem.W.dataLe false fun q : Dt × V => q.1.py) = qs.mergeSort fun p q => leD p.1 q.1 := by
      have := List.map_mergeSort (r := PySem.W.dataLe false fun q : Dt × V => q.1.py) (s := fun p q : Dt × V => leD p.1 q.1) (f := id) (l := qs) fun p hp q hq => ?_
      · simpa using this
      · show (!PySem.W.dataLt q.1.py p.1.py) = !ltD q.1 p.1
        rw [ltD_py q.1 p.1 (hal _ (List.mem_map.mpr ⟨q, hq, rfl⟩) _ (List.mem_map.mpr ⟨p, hp, rfl⟩))]
    rw [es] at he
    have hlen2 : ((qs.mergeSort fun p q => leD p.1 q.1).map (·.2)).length ≤ sizeLine := by
      rw [List.length_map, List.length_mergeSort]; simpa using hz
    exact ⟨.ref _, upd H (s.heap.objs.size + 1) (.lst ((qs.mergeSort fun p q => leD p.1 q.1).map (·.2))), I.laid (t' := s.toks) (fun _ _ => PyProof.Rows.sortedAll_old) (Nat.le_succ _) ⟨hlen2, out, ep, vals_each he, he'⟩, rfl, q _ (I.hok.fresh (Nat.le_succ _))⟩
theorem DinL.pairs {K : PySem.W.Frag} {F : Hp} : ∀ {xs : List Dt} {vs : List V}, DinL K F xs vs → ∃ qs : List (Dt × V), qs.map (·.1) = xs ∧ qs.map (·.2) = vs ∧ ∀ q ∈ qs, Din K F q.1 q.2
  | [], vs, h => by
    have : vs = [] := h
    subst this
    exact ⟨[], rfl, rfl, fun q hq => by cases hq⟩
  | x :: xs, vs, ⟨u, us, h1, h2, h3⟩ => by
    subst h1
    obtain ⟨qs, e1, e2, h⟩ := DinL.pairs h3
    exact ⟨(x, u) :: qs, by rw [List.map_cons, e1], by rw [List.map_cons, e2], fun q hq => (List.mem_cons.mp hq).elim (fun e => e ▸ h2) (h q)⟩
theorem DinL.of_pairs {K : PySem.W.Frag} {F : Hp} : ∀ (qs : List (Dt × V)), (∀ q ∈ qs, Din K F q.1 q.2) → DinL K F (qs.map (·.1)) (qs.map (·.2))
  | [], _ => rfl
  | q :: qs, h => ⟨_, _, rfl, h q (List.mem_cons_self ..), DinL.of_pairs qs fun r hr => h r (List.mem_cons_of_mem _ hr)⟩
theorem sortD_pairs (qs : List (Dt × V)) : (qs.mergeSort fun p q => leD p.1 q.1).map (·.1) = sortD (qs.map (·.1)) := by
  unfold sortD
  exact List.map_mergeSort fun _ _ _ _ => rfl
theorem un_sorted {K : PySem.W.Frag} : Un1L U K (rSortedX K) gSorted := ⟨fun e F ρ w σ H x v Q Q' R hx q k => by
  unfold gSorted at q
  split at q
  · rename_i xs
    obtain ⟨o, q⟩ := q
    obtain ⟨l, vs, e1, h1, d1⟩ := R.bor hx
    subst e1
    obtain ⟨qs, q1, q2, hq⟩ := DinL.pairs d1
    refine ⟨l, qs, rfl, by rw [q2]; exact SqL.of h1, fun z hz => ?_, by rw [q1]; exact o, fun p hp => ?_⟩
    · exact (Din.dp z.1 z.2 (Din.mono R.bas.fh _ _ (hq z hz)) (npL_iff.mp o.1 z.1 (by rw [← q1]; exact List.mem_map.mpr ⟨z, hz, rfl⟩))).1
    · obtain ⟨R2, f2⟩ := R.mine hp ((qs.mergeSort fun p q => leD p.1 q.1).map (·.2))
      refine k _ p _ F _ q R2 (Same.refl _) f2 ?_
      have := DinL.of_pairs (K := K) (F := F) (qs.mergeSort fun p q => leD p.1 q.1) fun z hz => hq z (List.mem_mergeSort.mp hz)
      rw [sortD_pairs, q1] at this
      exact this
  · exact q.elim⟩
theorem df_sortedX {p2 pos : Pos} (hu : X.A.units + 64 < cLine) (hg : Gl X "sorted") (hm : X.mg "sorted" = none) (ha : DB X U a ta) (hs : starEach [a] X.env = [(false, eval a X.env)] := by rfl) : DF X U (.Call (.Name "sorted" p2) [a] [] pos) (dUnL gSorted ta) :=
  df_callB (cr_sortedX hu) un_sorted hg hm (by decide +kernel) ha (hs := hs)
end
end DL

set_option Elab.async false
set_option linter.all false
set_option maxRecDepth 100000
set_option maxHeartbeats 4000000
namespace DL
open PySem L2
/-! ### constants that are data, read off the heap that the top leaves -/
mutual
def dtB (K : PySem.W.Frag) : Dt → Value → Bool
  | .non, .none => true
  | .bl b, .bool c => b == c
  | .int i, .int j _ => decide (i = j)
  | .str x, .str y _ => decide (x = y) && PyData.strOk x
  | .tup xs, .ref a => (match K.lookup a with
    | some ⟨.type c, _, .seq its _, _⟩ => decide (c = "tuple") && (decide (its.size ≤ sizeLine) && dtBL K xs its.toList)
    | _ => false)
  | _, _ => false
def dtBL (K : PySem.W.Frag) : List Dt → List Value → Bool
  | [], [] => true
  | x :: xs, u :: us => dtB K x u && dtBL K xs us
  | _, _ => false
end
mutual
theorem dtB_ok {K : PySem.W.Frag} : ∀ (d : Dt) (u : Value), dtB K d u = true → ∃ v, RelV v u ∧ ∀ F, Din K F d v
  | .non, u, h => by
    cases u with
    | none => exact ⟨.non, rfl, fun _ => rfl⟩
    | _ => cases h
  | .bl b, u, h => by
    cases u with
    | bool c =>
      have e : b = c := eq_of_beq (show (b == c) = true from h)
      subst e
      exact ⟨.bl b, rfl, fun _ => rfl⟩
    | _ => cases h
  | .int i, u, h => by
    cases u with
    | int j t =>
      have e : i = j := of_decide_eq_true h
      subst e
      exact ⟨.int i, ⟨t, rfl⟩, fun _ => rfl⟩
    | _ => cases h
  | .str x, u, h => by
    cases u with
    | str y t =>
      obtain ⟨h1, h2⟩ := Bool.and_eq_true_iff.mp (show (decide (x = y) && PyData.strOk x) = true from h)
      have e : x = y := of_decide_eq_true h1
      subst e
      exact ⟨.str x, ⟨t, rfl⟩, fun _ => ⟨rfl, h2⟩⟩
    | _ => cases h
  | .lst xs, u, h => by cases u <;> cases h
  | .ref a, u, h => by cases u <;> cases h
  | .tup xs, u, h => by
    cases u with
    | ref a =>
      unfold dtB at h
      cases q : K.lookup a with
      | none => rw [q] at h; cases h
      | some o =>
        obtain ⟨oc, od, dt, osl⟩ := o
        rw [q] at h
        cases oc with
        | type c =>
          cases dt with
          | seq its n =>
            obtain ⟨h1, h2⟩ := Bool.and_eq_true_iff.mp (show (decide (c = "tuple") && (decide (its.size ≤ sizeLine) && dtBL K xs its.toList)) = true from h)
            obtain ⟨h3, h4⟩ := Bool.and_eq_true_iff.mp h2
            obtain ⟨vs, r, hd⟩ := dtBL_ok xs its.toList h4
            exact ⟨.ref a, rfl, fun F => ⟨a, vs, rfl, .inr ⟨_, its, n, q, congrArg Value.type (of_decide_eq_true h1), rfl, of_decide_eq_true h3, r⟩, hd F⟩⟩
          | _ => cases h
        | _ => cases dt <;> cases h
    | _ => cases h
theorem dtBL_ok {K : PySem.W.Frag} : ∀ (ds : List Dt) (us : List Value), dtBL K ds us = true → ∃ vs, Vals vs us ∧ ∀ F, DinL K F ds vs
  | [], us, h => by
    cases us with
    | nil => exact ⟨[], .nil, fun _ => rfl⟩
    | cons _ _ => cases h
  | x :: xs, us, h => by
    cases us with
    | nil => cases h
    | cons u us =>
      obtain ⟨h1, h2⟩ := Bool.and_eq_true_iff.mp (show (dtB K x u && dtBL K xs us) = true from h)
      obtain ⟨v, r1, d1⟩ := dtB_ok x u h1
      obtain ⟨vs, r2, d2⟩ := dtBL_ok xs us h2
      exact ⟨v :: vs, .cons r1 r2, fun F => ⟨v, vs, rfl, d1 F, d2 F⟩⟩
end
def conB (K : PySem.W.Frag) (x : Str) (d : Dt) : Bool := match PySem.W.nsIn K mainGlobals x with
  | some (some u) => dtB K d u
  | _ => false
theorem conB_ok {K : PySem.W.Frag} {h : Heap} {mg : Str → Option Value} (X : K.In h) (G : h.Ns mainGlobals mg) {x : Str} {d : Dt} (c : conB K x d = true) : GC K mg x d := by
  unfold conB at c
  cases q : PySem.W.nsIn K mainGlobals x with
  | none => rw [q] at c; cases c
  | some o =>
    rw [q] at c
    cases o with
    | none => cases c
    | some u =>
      obtain ⟨v, r, hd⟩ := dtB_ok d u c
      exact ⟨v, u, PySem.W.mg_of X G q, r, hd⟩
/-! ### the head's facts and these -/
abbrev AlE : Type := He.AlD × Bool
def obsE (n : Nat) (fa : List He.Fa) (fn : List He.DefD) (ex : PySem.W.Frag → Bool) (g : Addr → Option Obj) : AlE := (He.obsD fa fn (He.frG g (He.asD g n)), ex (He.frG g (He.asD g n)))
def hookE (n : Nat) (fa : List He.Fa) (fn : List He.DefD) (ex : PySem.W.Frag → Bool) : PySem.W.Hook where
  α := AlE
  obs := fun s => obsE n fa fn ex s.heap.get?
  val := fun _ => (He.valD fn, true)
  says := fun _ h => ∃ K : PySem.W.Frag, K.In h ∧ He.SaysD fa fn K ∧ ex K = true
  of := fun _ _ e => ⟨_, He.frG_in, congrArg Prod.fst e, congrArg Prod.snd e⟩
  keeps := fun _ _ _ ⟨K, hK, c⟩ k => ⟨K, PySem.W.Frag.In.keeps hK k, c⟩
theorem obsE_eq {n : Nat} {fa : List He.Fa} {fn : List He.DefD} {ex : PySem.W.Frag → Bool} {g : Addr → Option Obj} {s : Shared} (h : ∀ a, g a = s.heap.get? a) : obsE n fa fn ex g = (hookE n fa fn ex).obs s := by
  have e : g = s.heap.get? := funext h
  rw [e] <;> rfl
end DL

set_option Elab.async false
set_option linter.all false
set_option maxRecDepth 100000
set_option maxHeartbeats 4000000
namespace DL
open PySem L2
section
variable {U : Wd} {g : TDG U} {te : TD U} {tt : TDT U} {ρ : Rho} {w : U.W} {Q : List Dt → U.W → Prop}
/-- comprehensions over any target -/
theorem goC_mapG (f : Dt → Dt) : ∀ (ds acc : List Dt), (∀ d ∈ ds, ∀ R : Dt → U.W → Prop, R (f d) w → g d ρ w fun ρ1 w1 => te ρ1 w1 R) → acc.length + ds.length ≤ sizeLine → Q (acc ++ ds.map f) w → goC g dYes te ρ ds acc w Q
  | [], acc, _, _, h => by simpa [goC] using h
  | d :: ds, acc, hd, hz, h => by
    simp only [List.length_cons] at hz
    unfold goC
    simp only [ev_yes, if_true]
    exact hd d (List.mem_cons_self ..) _ ⟨by omega, goC_mapG f ds _ (fun d' h' => hd d' (List.mem_cons_of_mem _ h')) (by rw [List.length_append, List.length_singleton]; omega) (by simpa using h)⟩
theorem goC_filterG (p : Dt → Bool) (f : Dt → Dt) : ∀ (ds acc : List Dt), (∀ d ∈ ds, ∀ (A : Dt → U.W → Prop) (B : U.W → Prop), (p d = true → A (f d) w) → (p d = false → B w) → g d ρ w fun ρ1 w1 => tt ρ1 w1 fun k w2 => if k = true then te ρ1 w2 A else B w2) → acc.length + ds.length ≤ sizeLine →
    Q (acc ++ (ds.filter p).map f) w → goC g tt te ρ ds acc w Q
  | [], acc, _, _, h => by simpa [goC] using h
  | d :: ds, acc, hd, hz, h => by
    simp only [List.length_cons] at hz
    unfold goC
    refine hd d (List.mem_cons_self ..) _ _ (fun e => ?_) (fun e => ?_)
    · exact ⟨by omega, goC_filterG p f ds _ (fun d' h' => hd d' (List.mem_cons_of_mem _ h')) (by rw [List.length_append, List.length_singleton]; omega) (by simpa [List.filter_cons, e] using h)⟩
    · exact goC_filterG p f ds _ (fun d' h' => hd d' (List.mem_cons_of_mem _ h')) (by omega) (by simpa [List.filter_cons, e] using h)
end
theorem zipD_at : ∀ {xs ys : List Dt} {k : Nat} (h : k < (zipD xs ys).length) (h1 : k < xs.length) (h2 : k < ys.length), (zipD xs ys)[k] = .tup [xs[k], ys[k]]
  | [], _, _, h, _, _ => by simp [zipD] at h
  | _ :: _, [], _, _, _, h => by simp at h
  | x :: xs, y :: ys, 0, _, _, _ => rfl
  | x :: xs, y :: ys, k + 1, h, h1, h2 => zipD_at (xs := xs) (ys := ys) (k := k) (by simpa [zipD] using h) (by simpa using h1) (by simpa using h2)
mutual
theorem eqd_refl : ∀ x : Dt, x.np = true → eqd x x = true
  | .non, _ => rfl
  | .bl b, _ => by show (b == b) = true; exact beq_self_eq_true b
  | .int b, _ => by show (b == b) = true; exact beq_self_eq_true b
  | .str b, _ => by show (b == b) = true; exact beq_self_eq_true b
  | .ref _, h => by cases h
  | .tup xs, h => eqdL_refl xs h
  | .lst xs, h => eqdL_refl xs h
theorem eqdL_refl : ∀ xs : List Dt, Dt.npL xs = true → eqdL xs xs = true
  | [], _ => rfl
  | x :: xs, h => by
    have h' := Bool.and_eq_true_iff.mp (show (x.np && Dt.npL xs) = true from h)
    show (eqd x x && eqdL xs xs) = true
    rw [eqd_refl x h'.1, eqdL_refl xs h'.2]; rfl
end
end DL

set_option Elab.async false
set_option linter.all false
set_option maxRecDepth 100000
set_option maxHeartbeats 4000000
namespace DL
open PySem L2 PySem.Spec PyProof.Rows
/-! ### enumerate(tuple) -/
set_option maxHeartbeats 1000000 in
theorem meets_enum1 {v : Value} {o : Obj} {H : Heap → Prop} (B : PySem.Begins v o H) :
    Meets (Builtin.«enumerate.__new__» ⟨[.type "enumerate", v], []⟩) (fun _ R s => H s.heap ∧
      R (.ok (.ret (.ref (s.heap.push o).objs.size))) { s with heap := (s.heap.push o).push { cls := .type "enumerate", data := .fields #[.none, .bool false, .ref s.heap.objs.size, rawInt 0, .none, .none] } }) :=
  .of_wp fun prog w A R s h => by
    obtain ⟨hp, g, d, tk, os⟩ := s; obtain ⟨h1, h⟩ := h
    have hsub := sub_enumerate
    have q1 : ∀ {A' : Around} {E : Value → Shared → Prop} {Q : Value → Shared → Prop}, Q (.ref hp.objs.size) ⟨hp.push o, g, d, tk, os⟩ → wpAny (model prog w) A' (pyIter v) Q E ⟨hp, g, d, tk, os⟩ :=
      fun q => B.iter prog w _ _ ⟨hp, g, d, tk, os⟩ _ h1 q
    wp_walk using q1
    refine wpAny_stack_any fun st => wpAny_pure ?_
    split
    · rename_i c _ _ _ _ _
      cases (c == Value.type "enumerate")
      · wp_walk using q1
        exact ⟨_, rfl, h⟩
      · wp_walk using q1
        exact ⟨_, rfl, h⟩
    · wp_walk using q1
      exact ⟨_, rfl, h⟩
theorem call_enumT {prog : Program} {w : World} {A : Around} {E : Value → Shared → Prop} {s : Shared} {t : Addr} {items : Array Value} {Q : Value → Shared → Prop} (hT : s.heap.IsTuple t items)
    (h : ∀ h', IsEnum h' (s.heap.objs.size + 1) s.heap.objs.size 0 .none → h'.IsTupleIter s.heap.objs.size t 0 → h'.objs.size = s.heap.objs.size + 2 →
      (∀ b o, s.heap.get? b = some o → h'.get? b = some o) → Q (.ref (s.heap.objs.size + 1)) { s with heap := h' }) :
    wpAny (model prog w) A (call (.type "enumerate") [.ref t]) Q E s := by
  refine callType_new F.called_enumerate (by decide) (F.typeCall_enumerate_1 _) (F.newCall_enumerate_1 _) (fun obj => F.args_object_init_2 obj _) F.entry_enumerate_new
    (meets_enum1 (PySem.begins_tuple t items)) ⟨hT, ?_⟩
  have hz : (s.heap.push { cls := .type "tuple_iterator", data := .fields #[.ref t, .int 0 0] }).objs.size = s.heap.objs.size + 1 := Heap.size_push ..
  show _ ∧ _
  rw [hz]
  have he : IsEnum ((s.heap.push { cls := .type "tuple_iterator", data := .fields #[.ref t, .int 0 0] }).push { cls := .type "enumerate", data := .fields #[.none, .bool false, .ref s.heap.objs.size, rawInt 0, .none, .none] }) (s.heap.objs.size + 1) s.heap.objs.size 0 .none := by
    have := Heap.get?_push_size (s.heap.push { cls := .type "tuple_iterator", data := .fields #[.ref t, .int 0 0] }) (o := { cls := .type "enumerate", data := .fields #[.none, .bool false, .ref s.heap.objs.size, rawInt 0, .none, .none] }) rfl
    rw [hz] at this; exact this
  refine ⟨⟨_, he, rfl⟩, h _ he ⟨_, Heap.get?_push_of_some _ (Heap.get?_push_size _ rfl), rfl, rfl⟩ (by rw [Heap.size_push, hz]) fun b o x => Heap.get?_push_of_some _ (Heap.get?_push_of_some _ x)⟩
theorem pyNext_enum_endT {prog : Program} {w : World} {A : Around} {E : Value → Shared → Prop} {s : Shared} {e it a : Addr} {j : Nat} {i : Int} {old : Value} {items : Array Value} {Q : Option Value → Shared → Prop} (hh : A.handled = none)
    (he : IsEnum s.heap e it i old) (hit : s.heap.IsTupleIter it a j) (ht : s.heap.IsTuple a items) (hx : items[j]? = none) (hQ : ∀ h', Heap.ExtBut it s.heap h' → Q none { s with heap := h' }) : wpAny (model prog w) A (pyNext (.ref e)) Q E s := by
  have hT : s.TypeIs (.ref e) "enumerate" := ⟨_, he, rfl⟩
  unfold pyNext
  refine wpAny_bind (wpAny_attempt (wpAny_callSpecial?_slot (name := Str.ofString "__next__") hT F.slot_enumerate_next
    (wpAny_call_entry F.slot_enumerate_next hT F.entry_enumerate_next ?_ (F.args_enumerate_next_1 _))))
  show wpAny _ _ (field (.ref e) 2 >>= _) _ _ _
  refine wpAny_bind (wpAny_field he rfl (x := .ref it) rfl ?_)
  refine wpAny_bind (wpAny_nextOf_tuple_end (by exact hh) hit ht hx fun h' x he' hx' => ?_)
  obtain ⟨o, ho, hc⟩ := hx'
  refine wpAny_bind (wpAny_isInstance (T := "StopIteration") (b := true) ⟨o, ho, hc⟩ isSubtype_stop ?_)
  exact wpAny_pure (hQ _ he')
/-- the tuple at a, each item in a new pair -/
def IteT (K : PySem.W.Frag) (a : Addr) : It :=
  ⟨fun i H => ∃ (xs : List V) (x : V), SqT K H a xs ∧ xs[i]? = some x, fun i H v H' => ∃ T x, v = .ref T ∧ H T = none ∧ H' = upd H T (.tup [.int (i : Nat), x]) ∧ ∀ xs, SqT K H a xs → xs[i]? = some x, fun i H => ∃ xs : List V, SqT K H a xs ∧ xs.length ≤ i⟩
theorem turn_enumT {P : Program} {w : World} {K : PySem.W.Frag} {elts : List Expr} {kk : Nat} {tpos : Pos} (a e it : Addr) (hne : e ≠ it) (hae : a ≠ e) (hai : a ≠ it) :
    Turn P w K (.Tuple elts kk tpos) (IteT K a) [e, it] e (fun i h => (∃ old, IsEnum h e it ((i : Nat) : Int) old) ∧ h.IsTupleIter it a i) where
  mem := by simp
  obj := fun i h st b hb => by
    obtain ⟨⟨old, he⟩, ⟨o, ho, hc, hd⟩⟩ := st
    have e' : b = e ∨ b = it := by simpa using hb
    rcases e' with z | z
    · rw [z]; exact ⟨_, he, fun v q => nomatch q⟩
    · rw [z]; exact ⟨o, ho, fun v q => by rw [hd] at q; cases q⟩
  keep := fun i h h' st k => let ⟨⟨old, he⟩, ⟨o, ho, hc, hd⟩⟩ := st; ⟨⟨old, k e (by simp) _ he⟩, ⟨o, k it (by simp) o ho, hc, hd⟩⟩
  item := by
    intro X hP hw hK hc i pins s σ H E I hf st hg
    subst hP hw hK
    obtain ⟨⟨old, he⟩, hit⟩ := st
    obtain ⟨xs, x, hq, hx⟩ := hg
    obtain ⟨its, rv, p, hz⟩ := I.tuple hq
    obtain ⟨u, hu, ru⟩ := rv.get hx
    have hel : e < s.heap.objs.size := Heap.lt_size he
    have hil : it < s.heap.objs.size := by obtain ⟨_, q, _⟩ := hit; exact Heap.lt_size q
    have hlt : i < its.toArray.size := by
      have := (List.getElem?_eq_some_iff.mp hu).1
      simpa using this
    refine wpAny_pyNext_enum_itemD (Draws.tuple (prog := X.prog) (w := X.w) (A := X.A.in1) (show X.A.in1.handled = none from I.ok.hd hc) it a hai its.toArray) he ⟨hit, p⟩ hlt hne (by simp; exact ⟨hne, hae.symm⟩) fun x' h' tk hP' ho hst' hT hsz hk => ?_
    obtain ⟨hit', _⟩ := hst'
    have ex : x' = u := by
      have h1 : its[i]? = some x' := by simpa using hP'
      rw [hu] at h1; exact (Option.some.inj h1).symm
    subst ex
    refine ⟨_, rfl, wpAny_letOwnedTupleGo_enum (s := { s with heap := h', toks := tk + 1 }) ho fun h'' he' sb => ?_⟩
    have hT2 : h''.get? s.heap.objs.size = some { cls := .type "tuple", data := .seq #[.int i tk, x'] } := (sb.2 _ (Nat.ne_of_gt hel)).trans hT
    have new : ObjOk X.prog X.w (upd H s.heap.objs.size (.tup [.int (i : Nat), x])) h'' s.heap.objs.size (.tup [.int (i : Nat), x]) :=
      ⟨by show 2 ≤ sizeLine; decide, [.int i tk, x'], .cons ⟨_, rfl⟩ (.cons ru .nil), ⟨_, hT2, rfl, _, rfl⟩⟩
    have I1 : Inv X pins σ (upd H s.heap.objs.size (.tup [.int (i : Nat), x])) { s with heap := h'', toks := tk + 1 } :=
      I.turnedNew (ch := [e, it]) (fun b ob hb q => (sb.2 b (fun z => hb (by simp [z]))).trans (hk b ob (fun z => hb (by simp [z])) (fun z => hb (by simp [z])) q)) hf (Nat.le_refl _) new
    refine ⟨.ref s.heap.objs.size, _, I1, rfl, ⟨_, x, rfl, I.hok.fresh (Nat.le_refl _), rfl, fun ys hy => by rw [I.tuple_inj hy hq]; exact hx⟩, ⟨⟨x', ?_⟩, ?_⟩, fun b hb => ?_⟩
    · have e1 : ((i + 1 : Nat) : Int) = (i : Int) + 1 := by omega
      rw [e1]; exact he'
    · obtain ⟨o, ho2, hc2, hd2⟩ := hit'
      exact ⟨o, (sb.2 it (Ne.symm hne)).trans ho2, hc2, hd2⟩
    · have hb' : b < s.heap.objs.size := by
        have e' : b = e ∨ b = it := by simpa using hb
        rcases e' with z | z
        · rw [z]; exact hel
        · rw [z]; exact hil
      rw [upd_ne (Nat.ne_of_lt hb')]
      exact (hf b hb).1
  done := by
    intro X hP hw hK hc i pins s σ H E I hf st hg
    subst hP hw hK
    obtain ⟨⟨old, he⟩, hit⟩ := st
    obtain ⟨xs, hq, hx⟩ := hg
    obtain ⟨its, rv, p, hz⟩ := I.tuple hq
    obtain ⟨f0, f1, f2, f3, f4, f5⟩ := hf it (by simp)
    have hl := rv.length
    refine pyNext_enum_endT (I.ok.hd hc) he hit p (by simp; omega) fun h' eb => ⟨rfl, I.turned (t' := s.toks) (fun b o hb q => eb b o hb q) f0 f1 f3 f4 f5⟩
  self := fun A i s Q E st h => let ⟨⟨_, he⟩, _⟩ := st; wpAny_pyIter_enum he h
def iEnumT (K : PySem.W.Frag) (ta : TA) : TI := fun σ H R => ta σ H fun vs H1 => ∃ a xs, vs = [.ref a] ∧ SqT K H1 a xs ∧ R (IteT K a) H1
theorem pi_enumT {X : Cx} {e : Expr} {ta : TA} {p pos tpos : Pos} {elts : List Expr} {kk : Nat} (hg : Gl X "enumerate") (hm : X.mg "enumerate" = none) (ha : PA X [e] ta) (hs : starEach [e] X.env = [(false, eval e X.env)] := by rfl) :
    PI X (.Tuple elts kk tpos) (.Call (.Name "enumerate" p) [e] [] pos) (iEnumT X.K ta) := by
  refine ⟨fun pins s σ H R I h => ?_⟩
  refine Call_ (ld_blt I hg hm boot_enumerate (PyProof.Rows.callWith_type1 (thn (ha.run pos pins s σ H _ I h) fun us s1 ⟨vs, H1, I1, r1, q1⟩ => ?_) hs rfl))
  obtain ⟨a, xs, ex, hq, q⟩ := q1
  subst ex
  cases r1 with
  | cons r rr =>
    cases rr
    cases r
    obtain ⟨its, rv, p', hz⟩ := I1.tuple hq
    have hal : a < s1.heap.objs.size := by obtain ⟨o, ho, _⟩ := p'; exact Heap.lt_size ho
    refine call_enumT p' fun h' he hit hsz hk => wpAny_pyIter_enum he ?_
    have I2 : Inv X pins σ H1 { s1 with heap := h' } := I1.kept (t' := s1.toks) hk
    refine ⟨s1.heap.objs.size + 1, [s1.heap.objs.size + 1, s1.heap.objs.size], _, _, H1, rfl, I2, turn_enumT a (s1.heap.objs.size + 1) s1.heap.objs.size (Nat.succ_ne_self _) (Nat.ne_of_lt (Nat.lt_succ_of_lt hal)) (Nat.ne_of_lt hal), ⟨⟨.none, he⟩, hit⟩, fun b hb => ?_, q⟩
    have e' : b = s1.heap.objs.size + 1 ∨ b = s1.heap.objs.size := by simpa using hb
    have hle : s1.heap.objs.size ≤ b := by
      rcases e' with z | z
      · rw [z]; exact Nat.le_add_right _ _
      · rw [z]; exact Nat.le_refl _
    exact I1.fpOk hle (I1.hok.fresh hle)
/-! ### over data -/
def enumD : Nat → List Dt → List Dt
  | _, [] => []
  | k, x :: xs => .tup [.int (k : Nat), x] :: enumD (k + 1) xs
theorem enumD_length : ∀ (k : Nat) (xs : List Dt), (enumD k xs).length = xs.length
  | _, [] => rfl
  | k, x :: xs => by show (enumD (k + 1) xs).length + 1 = _; rw [enumD_length]; rfl
theorem enumD_get : ∀ {xs : List Dt} {k i : Nat} {d : Dt}, (enumD k xs)[i]? = some d → ∃ x, xs[i]? = some x ∧ d = .tup [.int ((k + i : Nat) : Int), x]
  | [], k, i, d, h => by simp [enumD] at h
  | x :: xs, k, 0, d, h => by
    cases (show some _ = some d from h)
    exact ⟨x, rfl, rfl⟩
  | x :: xs, k, i + 1, d, h => by
    obtain ⟨y, h1, h2⟩ := enumD_get (xs := xs) (k := k + 1) (i := i) (by simpa [enumD] using h)
    exact ⟨y, by simpa using h1, by rw [h2, show k + 1 + i = k + (i + 1) by omega]⟩
def gEnum (x : Dt) (Q : List Dt → Prop) : Prop := match x with
  | .tup xs => Q (enumD 0 xs)
  | _ => False
def gEnumL (x : Dt) (Q : List Dt → Prop) : Prop := match x with
  | .lst xs => Q (enumD 0 xs)
  | _ => False
section
variable {U : Wd} {X : Cx} {a : Expr} {ta : TD U} {pos p tpos : Pos}
def diE (g : Dt → (List Dt → Prop) → Prop) (ta : TD U) : TDL U := fun ρ w Q => ta ρ w fun x w1 => g x fun z => Q z w1
theorem di_enumT {elts : List Expr} {kk : Nat} (hg : Gl X "enumerate") (hm : X.mg "enumerate" = none) (ha : DE X U a ta) (hs : starEach [a] X.env = [(false, eval a X.env)] := by rfl) :
    DI X U (.Tuple elts kk tpos) (.Call (.Name "enumerate" p) [a] [] pos) (diE gEnum ta) :=
  ⟨fun e => (pi_enumT hg hm (pa_cons (ha.run e) pa_nil hs) hs).weak fun σ H Q ⟨F, ρ, w, Q', R, q, k⟩ => ⟨F, ρ, w, _, R, q, fun x v F1 w1 H1 q1 R1 s1 d1 => by
    unfold gEnum at q1
    split at q1
    · rename_i xs
      obtain ⟨p1, vs, e1, h1, dd1⟩ := d1
      subst e1
      refine ⟨p1, vs, rfl, SqT.mono R1.bas.fh h1, k _ F1 w1 H1 _ q1 R1 s1 ⟨fun {e F' ρ w σ H i} R sm hi => ?_, fun {e F' ρ w σ H i d v H'} R sm hi hy => ?_, fun {e F' ρ w σ H i} R sm hi => ?_⟩⟩
      · rw [enumD_length] at hi
        obtain ⟨v1, hv1, _⟩ := dd1.get (List.getElem?_eq_getElem hi)
        exact ⟨vs, v1, SqT.mono R.bas.fh (SqT.mono sm h1), hv1⟩
      · obtain ⟨T, x, rfl, hT, rfl, hx⟩ := hy
        obtain ⟨dx, g1, rfl⟩ := enumD_get hi
        obtain ⟨v1, hv1, dv1⟩ := dd1.get g1
        have z1 := hx vs (SqT.mono R.bas.fh (SqT.mono sm h1))
        rw [hv1] at z1; cases z1
        obtain ⟨R3, s3⟩ := R.laid hT (.tup [.int (i : Nat), x])
        refine ⟨_, R3, s3, ⟨T, _, rfl, .inl (.inl upd_same), .int (i : Nat), _, rfl, ?_, x, _, rfl, Din.mono (sm.trans s3) _ _ dv1, rfl⟩, fun b o h => by rw [upd_ne (ne_of_none h hT)]; exact h⟩
        show V.int (i : Nat) = V.int ((0 + i : Nat) : Int)
        rw [Nat.zero_add]
      · rw [enumD_length] at hi
        exact ⟨vs, SqT.mono R.bas.fh (SqT.mono sm h1), by rw [dd1.length]; exact hi⟩
    · exact q1.elim⟩⟩
theorem di_enumL {elts : List Expr} {kk : Nat} (hg : Gl X "enumerate") (hm : X.mg "enumerate" = none) (ha : DE X U a ta) (hs : starEach [a] X.env = [(false, eval a X.env)] := by rfl) :
    DI X U (.Tuple elts kk tpos) (.Call (.Name "enumerate" p) [a] [] pos) (diE gEnumL ta) :=
  ⟨fun e => (pi_enum hg hm (pa_cons (ha.run e) pa_nil hs) hs).weak fun σ H Q ⟨F, ρ, w, Q', R, q, k⟩ => ⟨F, ρ, w, _, R, q, fun x v F1 w1 H1 q1 R1 s1 d1 => by
    unfold gEnumL at q1
    split at q1
    · rename_i xs
      obtain ⟨p1, vs, e1, h1, dd1⟩ := d1
      subst e1
      refine ⟨p1, vs, rfl, SqL.of (R1.bas.fh _ _ h1), k _ F1 w1 H1 _ q1 R1 s1 ⟨fun {e F' ρ w σ H i} R sm hi => ?_, fun {e F' ρ w σ H i d v H'} R sm hi hy => ?_, fun {e F' ρ w σ H i} R sm hi => ?_⟩⟩
      · rw [enumD_length] at hi
        obtain ⟨v1, hv1, _⟩ := dd1.get (List.getElem?_eq_getElem hi)
        exact ⟨vs, v1, SqL.of (R.bas.fh _ _ (sm _ _ h1)), hv1⟩
      · obtain ⟨T, x, rfl, hT, rfl, hx⟩ := hy
        obtain ⟨dx, g1, rfl⟩ := enumD_get hi
        obtain ⟨v1, hv1, dv1⟩ := dd1.get g1
        have z1 := hx vs (SqL.of (R.bas.fh _ _ (sm _ _ h1)))
        rw [hv1] at z1; cases z1
        obtain ⟨R3, s3⟩ := R.laid hT (.tup [.int (i : Nat), x])
        refine ⟨_, R3, s3, ⟨T, _, rfl, .inl (.inl upd_same), .int (i : Nat), _, rfl, ?_, x, _, rfl, Din.mono (sm.trans s3) _ _ dv1, rfl⟩, fun b o h => by rw [upd_ne (ne_of_none h hT)]; exact h⟩
        show V.int (i : Nat) = V.int ((0 + i : Nat) : Int)
        rw [Nat.zero_add]
      · rw [enumD_length] at hi
        exact ⟨vs, SqL.of (R.bas.fh _ _ (sm _ _ h1)), by rw [dd1.length]; exact hi⟩
    · exact q1.elim⟩⟩
theorem ev_iE {g : Dt → (List Dt → Prop) → Prop} {ρ : Rho} {w : U.W} {QL : List Dt → U.W → Prop} : diE g ta ρ w QL = ta ρ w fun x w1 => g x fun z => QL z w1 := rfl
end
theorem g_EnumT {xs : List Dt} {Q : List Dt → Prop} : gEnum (.tup xs) Q = Q (enumD 0 xs) := rfl
theorem g_EnumL {xs : List Dt} {Q : List Dt → Prop} : gEnumL (.lst xs) Q = Q (enumD 0 xs) := rfl
end DL

set_option Elab.async false
set_option linter.all false
set_option maxRecDepth 100000
set_option maxHeartbeats 4000000
namespace DL
open PySem L2 PySem.Spec PyProof.Rows
/-! ### sets of ints and texts that can be walked -/
def kfV : Value → Key
  | .int k _ => .inl k
  | .str x _ => .inr x
  | _ => .inl 0
def GoodM (P : Program) (w : World) (e : Int × Value) : Prop := (mixKind P w).is (kfV e.2) e.2 = true ∧ e.1 = (mixKind P w).hash (kfV e.2) ∧ e.2.scannable = true
def SetM (P : Program) (w : World) (h : Heap) (a : Addr) (S : Key → Bool) (n : Nat) : Prop :=
  ∃ o es ep t, h.get? a = some o ∧ o.ExactSet ∧ o.data = .set es ep t ∧ (∀ e ∈ es.toList, GoodM P w e) ∧ (es.toList.map fun e => kfV e.2).Nodup ∧ (∀ k, S k = true ↔ k ∈ es.toList.map fun e => kfV e.2) ∧
    es.size < scanBound ∧ t.fits es.size = true ∧ es.size = n ∧ Ris t.place.toList ∧ (w.params.followText "set-order" = true ∨ t.led = true)
section
variable {P : Program} {w : World} {h h' : Heap} {a : Addr} {S : Key → Bool} {n : Nat}
theorem SetM.at (R : SetM P w h a S n) (k : ∀ o, h.get? a = some o → h'.get? a = some o) : SetM P w h' a S n := by
  obtain ⟨o, es, ep, t, ho, r⟩ := R
  exact ⟨o, es, ep, t, k o ho, r⟩
theorem goodM_elems {l : List (Int × Value)} (g : ∀ e ∈ l, GoodM P w e) : ElemsOf (mixKind P w) l := fun e he => ⟨⟨_, (g e he).1, (g e he).2.1⟩, (g e he).2.2⟩
theorem goodM_is {e : Int × Value} (g : GoodM P w e) (k : Key) : (mixKind P w).is k e.2 = true ↔ kfV e.2 = k :=
  ⟨fun h => (mixKind P w).inj _ _ _ g.1 h, fun h => h ▸ g.1⟩
theorem goodM_mem {l : List (Int × Value)} (g : ∀ e ∈ l, GoodM P w e) (k : Key) : (k ∈ l.map fun e => kfV e.2) ↔ ∃ e ∈ l, (mixKind P w).is k e.2 = true := by
  rw [List.mem_map]
  exact ⟨fun ⟨e, he, q⟩ => ⟨e, he, (goodM_is (g e he) k).2 q⟩, fun ⟨e, he, q⟩ => ⟨e, he, (goodM_is (g e he) k).1 q⟩⟩
end
section
variable {P : Program} {w : World} {A : Around} {E : Value → Shared → Prop} {s : Shared} {a : Addr} {S : Key → Bool} {n : Nat}
/-- behind a laid element: the table stored, made wider where it is too full -/
theorem setM_tail {gv : Bool → Sem Unit} (hgv : ∀ (b : Bool) (s1 : Shared) (Q1 : Unit → Shared → Prop), Q1 () s1 → wpAny (model P w) A (gv b) Q1 E s1)
    {o : Obj} {es : Array (Int × Value)} {ep : Nat} {t : SetTable} (ho : s.heap.get? a = some o) (hex : o.ExactSet) (hd : o.data = .set es ep t)
    {fs : Array (Int × Value)} {u : SetTable} {S1 : Key → Bool} (gd : ∀ e ∈ fs.toList, GoodM P w e) (nd : (fs.toList.map fun e => kfV e.2).Nodup) (ms : ∀ k, S1 k = true ↔ k ∈ fs.toList.map fun e => kfV e.2)
    (small : fs.size < scanBound) (fit : u.fits fs.size = true) (ris : Ris u.place.toList) (led : w.params.followText "set-order" = true ∨ u.led = true) {dm : Bool} {R : Option Bool → Shared → Prop}
    (fin : ∀ h', Heap.SameBut a s.heap h' → SetM P w h' a S1 fs.size → R (some true) { s with heap := h' }) :
    wpAny (model P w) A (do
        storeSet a fs u
        if (!dm && u.tooFull) = true then do
            gv (relayAll u fs (SetTable.grown fs.size)).2.2
            storeSet a (relayAll u fs (SetTable.grown fs.size)).1 (relayAll u fs (SetTable.grown fs.size)).2.1
            pure (some true)
          else pure (some true)) R E s := by
  have at1 := L2.store_at (es' := fs) (t' := u) ho hd
  have same1 := Heap.SameBut.update s.heap a (Obj.putSet fs u)
  refine wpAny_bind (wpAny_storeSet_of ho hd ?_ (fits_of_scanBound small))
  split
  · have q1 := relayAll_perm u fs (SetTable.grown fs.size)
    have q2 := relayAll_fits u fs (SetTable.grown fs.size)
    have q3 := relayAll_ris u fs (SetTable.grown fs.size)
    have q4 := relayAll_led u fs (SetTable.grown fs.size)
    generalize relayAll u fs (SetTable.grown fs.size) = Z at q1 q2 q3 q4 ⊢
    obtain ⟨es2, u2, gave⟩ := Z
    dsimp only at q1 q2 q3 q4 ⊢
    have sz : es2.size = fs.size := by rw [← Array.length_toList, q1.length_eq, Array.length_toList]
    have small2 : es2.size < scanBound := sz ▸ small
    refine wpAny_bind (hgv _ _ _ (wpAny_bind (wpAny_storeSet_of at1 rfl ?_ (fits_of_scanBound small2))))
    have at2 := L2.store_at (es' := es2) (t' := u2) at1 rfl
    refine wpAny_pure (fin _ (same1.trans (Heap.SameBut.update _ a _)) ⟨_, es2, _, u2, at2, hex, rfl, fun e he => gd e (q1.mem_iff.mp he), (q1.map fun e => kfV e.2).nodup_iff.mpr nd, fun k => (ms k).trans (q1.map fun e => kfV e.2).mem_iff.symm, small2, q2, sz, q3, led.imp id fun z => by rw [q4]; exact z⟩)
  · exact wpAny_pure (fin _ same1 ⟨_, fs, _, u, at1, hex, rfl, gd, nd, ms, small, fit, rfl, ris, led⟩)
theorem setM_add {k : Key} {v : Value} {Q : Bool → Shared → Prop} (R : SetM P w s.heap a S n) (room : n + 1 < scanBound) (hkey : (mixKind P w).is k v = true) (hkf : kfV v = k) (hsc : v.scannable = true)
    (hQ : ∀ h', Heap.SameBut a s.heap h' → SetM P w h' a (fun j => S j || decide (j = k)) (if S k = true then n else n + 1) → Q (!S k) { s with heap := h' }) :
    wpAny (model P w) A (setAddHashed a v ((mixKind P w).hash k)) Q E s := by
  obtain ⟨o, es, ep, t, ho, hex, hd, gd, nd, ms, small, fit, hn, ris, led⟩ := R
  have hel : ElemsOf (mixKind P w) es.toList := goodM_elems gd
  unfold setAddHashed setAddHashedIn
  refine wpAny_holding (wpAny_bind (wpAny_setState_of ho hd fit ?_))
  dsimp only
  rw [byScan_of hsc small hel]
  simp only [↓reduceIte]
  unfold setAddByScan
  refine wpAny_bind (wpAny_bind (wpAny_rule (wpAny_bind (wpAny_setScan_of hkey ho hd fit hel ?_))))
  cases found : List.findIdx? (fun e => (mixKind P w).is k e.2) es.toList with
  | some j =>
    dsimp only
    obtain ⟨hj, pj, _⟩ := List.findIdx?_eq_some_iff_getElem.mp found
    have hS : S k = true := (ms k).2 ((goodM_mem gd k).2 ⟨es.toList[j], List.getElem_mem hj, pj⟩)
    have q := hQ s.heap (Heap.SameBut.refl a s.heap) ⟨o, es, ep, t, ho, hex, hd, gd, nd, fun i => by
      rw [Bool.or_eq_true, decide_eq_true_eq, ← ms i]
      exact ⟨fun z => z.elim id (fun e => e ▸ hS), .inl⟩, small, fit, by rw [if_pos hS]; exact hn, ris, led⟩
    rw [hS] at q
    exact wpAny_pure (wpAny_pure q)
  | none =>
    dsimp only
    have notin : k ∉ es.toList.map fun e => kfV e.2 := fun z => by
      obtain ⟨e, he, q⟩ := (goodM_mem gd k).1 z
      have c := List.findIdx?_eq_none_iff.mp found e he
      rw [q] at c; cases c
    have hS : S k = false := by
      cases q : S k with
      | false => rfl
      | true => exact absurd ((ms k).1 q) notin
    have way : ∀ (b : Bool) {s1 : Shared} {Q1 : Unit → Shared → Prop}, Q1 () s1 → wpAny (model P w) A (match b with | true => rule "set.scan.the-table-gave-way" | false => pure ()) Q1 E s1 :=
      fun b s1 Q1 q => by cases b <;> first | exact wpAny_pure q | exact wpAny_rule q
    have q1 := layNew_perm t es ((mixKind P w).hash k) v
    have q2 := layNew_fits t es ((mixKind P w).hash k) v
    have q3 := layNew_ris t es ((mixKind P w).hash k) v ris
    have q4 := layNew_led t es ((mixKind P w).hash k) v
    generalize layNew t es ((mixKind P w).hash k) v = Z at q1 q2 q3 q4 ⊢
    obtain ⟨fs, u, dm, gave⟩ := Z
    dsimp only at q1 q2 q3 q4 ⊢
    rw [Array.toList_push] at q1
    have pc : fs.toList.Perm (((mixKind P w).hash k, v) :: es.toList) := q1.trans (List.perm_append_singleton _ _)
    have pk : (fs.toList.map fun e => kfV e.2).Perm (k :: es.toList.map fun e => kfV e.2) := by
      have := pc.map fun e => kfV e.2
      rw [List.map_cons, hkf] at this
      exact this
    have gd1 : ∀ e ∈ fs.toList, GoodM P w e := fun e he => (List.mem_cons.mp (pc.mem_iff.mp he)).elim (fun z => by rw [z]; exact ⟨by show (mixKind P w).is (kfV v) v = true; rw [hkf]; exact hkey, by show _ = (mixKind P w).hash (kfV v); rw [hkf], hsc⟩) (gd e)
    have nd1 : (fs.toList.map fun e => kfV e.2).Nodup := pk.nodup_iff.mpr (List.nodup_cons.mpr ⟨notin, nd⟩)
    have ms1 : ∀ i, (S i || decide (i = k)) = true ↔ i ∈ fs.toList.map fun e => kfV e.2 := fun i => by
      rw [Bool.or_eq_true, decide_eq_true_eq, ms i, pk.mem_iff, List.mem_cons]
      exact Or.comm
    have sz : fs.size = n + 1 := by rw [← Array.length_toList, pc.length_eq, List.length_cons, Array.length_toList, hn]
    have small1 : fs.size < scanBound := by rw [sz]; exact room
    have led1 : w.params.followText "set-order" = true ∨ u.led = true := led.imp id fun z => by rw [q4]; exact z
    have fin : ∀ h', Heap.SameBut a s.heap h' → SetM P w h' a (fun j => S j || decide (j = k)) fs.size → Q true { s with heap := h' } := fun h' sb r => by
      have q := hQ h' sb
      rw [hS] at q
      rw [sz] at r
      exact q r
    refine wpAny_bind (way _ ?_)
    split
    · refine wpAny_bind ?_
      rw [hashByValue_scannable 8 hsc]
      refine wpAny_pure (setM_tail (fun b s1 Q1 q => by cases b <;> first | exact wpAny_pure q | exact wpAny_rule q) ho hex hd gd1 nd1 ms1 small1 ?_ ?_ ?_ fun h' sb r => by dsimp only; exact wpAny_pure (fin h' sb r))
      · first | (split <;> first | exact q2 | exact SetTable.fits_plain_off q2) | exact q2
      · first | (split <;> exact q3) | exact q3
      · first | (split <;> exact led1) | exact led1
    · refine wpAny_bind (wpAny_pure ?_)
      simp only [↓reduceIte]
      exact setM_tail (fun b s1 Q1 q => by cases b <;> first | exact wpAny_pure q | exact wpAny_rule q) ho hex hd gd1 nd1 ms1 small1 q2 q3 led1 fun h' sb r => by dsimp only; exact wpAny_pure (fin h' sb r)
end
/-! ### set(a list) -/
def inK (ks : List Key) (j : Key) : Bool := ks.any fun x => decide (x = j)
theorem inK_iff {ks : List Key} {j : Key} : inK ks j = true ↔ j ∈ ks := by
  unfold inK
  rw [List.any_eq_true]
  exact ⟨fun ⟨x, hx, e⟩ => of_decide_eq_true e ▸ hx, fun h => ⟨j, h, decide_eq_true rfl⟩⟩
theorem setM_new_at {P : Program} {w : World} {h : Heap} {a : Addr} {ks : List Key} (ho : h.get? a = some { cls := .type "set", dict := none, data := .set #[] 0 (.fresh 0 0 (!w.params.followText "set-order")) }) : SetM P w h a (inK (ks.take 0)) 0 :=
  ⟨_, #[], 0, _, ho, ⟨rfl, rfl, rfl⟩, rfl, (fun e he => by simp at he), (by simp), (fun k => by simp [inK]), (by decide), (by rfl), rfl, List.Pairwise.nil, by
    show _ ∨ (!w.params.followText "set-order") = true
    cases w.params.followText "set-order"
    · exact .inr rfl
    · exact .inl rfl⟩
section
variable {P : Program} {w : World} {A : Around} {E : Value → Shared → Prop} {s : Shared}
theorem kfV_of {k : Key} {v : Value} (r : RelV (kV k) v) : kfV v = k ∧ v.scannable = true ∧ (mixKind P w).is k v = true := by
  refine ⟨?_, key_scan r, kV_is r⟩
  cases k with
  | inl i => obtain ⟨t, rfl⟩ := r; rfl
  | inr x => obtain ⟨t, rfl⟩ := r; rfl
/-- the loop behind set(..) and update(..): each key of the walk put in -/
theorem setM_loop {I : Addr} {fp wr : List Addr} {G : Array GenState → Array GenState → Prop} {n : Nat} {Pv : Nat → Value → Prop} {St : Nat → Shared → Prop} {R : Result → Shared → Prop}
    (W : WalksS P w A.in1 I fp wr G n Pv St) (D : Addr) (hD : D ∉ fp) (ks : List Key) (hn : n = ks.length) (hb : ks.length + 1 < scanBound) (hval : ∀ i v, Pv i v → ∃ k, ks[i]? = some k ∧ RelV (kV k) v) :
    ∀ (m i : Nat) (s : Shared), n - i = m → i ≤ n → St i s → (∃ c, c ≤ i ∧ SetM P w s.heap D (inK (ks.take i)) c) →
      (∀ s' c, Moved (D :: wr) G s s' → c ≤ n → SetM P w s'.heap D (inK ks) c → R (.ok (.ret .none)) s') →
      codeAny (model P w) A (.builtin "set.update.loop" ⟨[.ref D, .ref I], []⟩) R s := by
  have notw : D ∉ wr := fun h => hD (W.sub _ h)
  have more : ∀ b ∈ wr, b ∈ D :: wr := fun b hb => List.mem_cons_of_mem _ hb
  intro m
  induction m with
  | zero =>
    intro i s hm hi hst ⟨c, hc, hS⟩ hR
    obtain rfl : i = n := by omega
    refine codeAny_builtin F.entry_set_update_loop ?_
    rw [Around.under_plainId F.plain_set_update_loop _]
    refine wpAny_bind (W.done s _ _ hst fun s' mv => ?_)
    rw [List.take_of_length_le (by omega : ks.length ≤ i)] at hS
    exact wpAny_pure (hR s' c (mv.mono more) hc (hS.at fun o e => mv.heap D o notw e))
  | succ m ih =>
    intro i s hm hi hst ⟨c, hc, hS⟩ hR
    have lt : i < n := by omega
    refine codeAny_builtin F.entry_set_update_loop ?_
    rw [Around.under_plainId F.plain_set_update_loop _]
    refine wpAny_bind (W.item i s _ _ lt hst fun v s' hP hst' mv => ?_)
    obtain ⟨k, hk, rk⟩ := hval i v hP
    obtain ⟨kf, sc, is⟩ := kfV_of (P := P) (w := w) rk
    have hS' : SetM P w s'.heap D (inK (ks.take i)) c := hS.at fun o e => mv.heap D o notw e
    refine wpAny_bind (wpAny_holding ?_)
    unfold setAdd
    refine wpAny_holding (wpAny_bind ((mixKind P w).pyHash is ?_))
    refine setM_add (s := { s' with toks := s'.toks + 1 }) hS' (by omega) is kf sc fun h' sb hS2 => ?_
    have e2 : (fun j => inK (ks.take i) j || decide (j = k)) = inK (ks.take (i + 1)) := funext fun j => by
      unfold inK
      rw [List.take_add_one, hk, List.any_append]
      simp [eq_comm]
    rw [e2] at hS2
    refine wpAny_pure ⟨plainId_quiet F.plain_set_update_loop _, ih (i + 1) _ (by omega) lt (W.frame _ s' _ _ hst' (Nat.le_succ _) fun b hb o e => ?_) ⟨_, (by split <;> omega), hS2⟩ fun s'' c2 mv2 hc2 hS3 => ?_⟩
    · rw [sb.2 b (fun z : b = D => hD (z ▸ hb))]; exact e
    · refine hR s'' c2 (Moved.trans W.gtrans ((mv.mono more).then_heap (Nat.le_succ _) fun b o hb e => ?_) mv2) hc2 hS3
      rw [sb.2 b (fun z : b = D => hb (z ▸ List.mem_cons_self))]; exact e
end
end DL

set_option Elab.async false
set_option linter.all false
set_option maxRecDepth 100000
set_option maxHeartbeats 4000000
namespace DL
open PySem L2 PySem.Spec PyProof.Rows
abbrev newSetO (w : World) : Obj := { cls := .type "set", dict := none, data := .set #[] 0 (.fresh 0 0 (!w.params.followText "set-order")) }
section
variable {P : Program} {w : World} {A : Around} {E : Value → Shared → Prop} {s : Shared}
set_option maxHeartbeats 3200000 in
/-- set(l) of a list of ints or texts -/
theorem call_set_listM {l : Addr} {items : Array Value} (ks : List Key) {Q : Value → Shared → Prop} (hh : A.handled = none) (hl : s.heap.IsList l items) (hv : Vals (ks.map kV) items.toList) (hb : ks.length + 1 < scanBound)
    (h : ∀ (h' : Heap) (tk c : Nat), SetM P w h' s.heap.objs.size (inK ks) c → c ≤ ks.length → (∀ b o, s.heap.get? b = some o → h'.get? b = some o) → Q (.ref s.heap.objs.size) { s with heap := h', toks := tk }) :
    wpAny (model P w) A (call (.type "set") [.ref l]) Q E s := by
  have hsz : items.size = ks.length := by
    have q := hv.length
    rw [List.length_map, Array.length_toList] at q
    exact q.symm
  obtain ⟨c, tl, hmro⟩ := F.called_set.mro
  have hmade := F.called_set.made
  have hsub := F.called_set.sub
  refine wpAny_call (codeAny_of_tree ?_)
  show wpAny _ _ (callAny (.type "set") _) _ _ _
  refine wpAny_pure ⟨Code.quiet_builtin _ (by decide +kernel), codeAny_builtin F.entry_type_call ?_⟩
  rw [Around.under_plain (weight_type_call_type "set" [.ref l] []) rfl]
  have h1 := F.called_set.notType
  have h2 := F.called_set.canCreate
  have hct := F.typeCall_set_1 (.ref l)
  repeat (any_goals (first | assumption | wp_step))
  refine codeAny_mono (code_set_led1 (.ref l) (E := E) (Q₁ := fun obj s1 => obj = .ref s.heap.objs.size ∧ s1 = { s with heap := s.heap.push (newSetO w) }) ⟨rfl, rfl⟩) fun r s1 hr => ?_
  cases r with
  | error e => exact hr
  | ok fl =>
    cases fl with
    | ret obj =>
      obtain ⟨rfl, rfl⟩ := hr
      have hS : (s.heap.push (newSetO w)).get? s.heap.objs.size = some (newSetO w) := Heap.get?_push_size _ rfl
      have hT : Shared.TypeIs { s with heap := s.heap.push (newSetO w) } (.ref s.heap.objs.size) "set" := ⟨_, hS, rfl⟩
      have hli := F.called_set.init.lookup
      have hbi := F.called_set.init.bind (.ref s.heap.objs.size)
      repeat (any_goals (first | assumption | wp_step))
      refine codeAny_mono (codeAny_call_builtin (R := wants (fun r s2 => r = .none ∧ ∃ h' tk c, s2 = { s with heap := h', toks := tk } ∧ SetM P w h' s.heap.objs.size (inK ks) c ∧ c ≤ ks.length ∧ (∀ b o, s.heap.get? b = some o → h'.get? b = some o)) E) F.called_set.init.plain F.entry_set_init (check_set_init_1 hT ?_)) fun r2 s2 hr2 => ?_
      · obtain ⟨ol, hol, hcl, nl, hdl⟩ := hl
        obtain ⟨ocls, odict, odata, oslots⟩ := ol
        simp only at hcl hdl
        subst hcl; subst hdl
        have hol' : (s.heap.push (newSetO w)).get? l = some { cls := .type "list", dict := odict, data := .seq items nl, slots := oslots } := Heap.get?_push_of_some _ hol
        have hsls := F.sub_list_set
        have hslf := F.sub_list_frozenset
        have hne : (Value.type "list" == Value.type "dict") = false := by decide
        have hl1 : (s.heap.push (newSetO w)).IsList l items := ⟨_, hol', rfl, nl, rfl⟩
        unfold Builtin.«set.__init__» noKeywords Builtin.Frozenset.updateFrom
        generalize hPI : pyIter = PI
        wp_walk
        subst hPI
        refine wpAny_pyIter_list hl1 (wpAny_bind (wpAny_runValue ?_))
        have hlS : l < s.heap.objs.size := Heap.lt_size hol
        have hh3 : A.in1.in1.in1.handled = none := by simp [hh]
        have hneI : l ≠ (s.heap.push (newSetO w)).objs.size := by rw [Heap.size_push]; exact Nat.ne_of_lt (Nat.lt_succ_of_lt hlS)
        have hSf : s.heap.objs.size ∉ [(s.heap.push (newSetO w)).objs.size, l] := by
          rw [Heap.size_push]; simp only [List.mem_cons, List.not_mem_nil, or_false, not_or]
          exact ⟨Nat.ne_of_lt (Nat.lt_succ_self _), Nat.ne_of_gt hlS⟩
        have hval : ∀ (i : Nat) (v : Value), items[i]? = some v → ∃ k, ks[i]? = some k ∧ RelV (kV k) v := fun i v hvi => by
          obtain ⟨x, hx, rx⟩ := Vals.get hv i v (by rw [Array.getElem?_toList]; exact hvi)
          rw [List.getElem?_map] at hx
          cases e : ks[i]? with
          | none => rw [e] at hx; cases hx
          | some k =>
            rw [e] at hx
            cases (show some (kV k) = some x from hx)
            exact ⟨k, rfl, rx⟩
        have hget : ((s.heap.push (newSetO w)).push { cls := .type "list_iterator", data := .fields #[.ref l, .int 0 0] }).get? s.heap.objs.size = some (newSetO w) := Heap.get?_push_of_some _ hS
        refine setM_loop ((Walks.list hh3 _ l hneI items).toS) s.heap.objs.size hSf ks hsz hb hval (items.size - 0) 0 _ (by omega) (Nat.zero_le _)
          ⟨⟨_, Heap.get?_push_size _ rfl, rfl, rfl⟩, (hl1.push _)⟩ ⟨0, Nat.le_refl 0, setM_new_at hget⟩ ?_
        intro s' c' hm hc' hS'
        obtain ⟨h', g2, d', tk', os'⟩ := s'
        have eg : g2 = s.gens := hm.gens
        have ed : d' = s.drawn := hm.drawn
        have eo : os' = s.os := hm.os
        subst eg; subst ed; subst eo
        rw [hsz] at hc'
        refine wpAny_pure (wpAny_pure ⟨rfl, h', tk', c', rfl, hS', hc', fun b o e => ?_⟩)
        have hb0 : b < s.heap.objs.size := Heap.lt_size e
        have hb2 : b ≠ (s.heap.push (newSetO w)).objs.size := by rw [Heap.size_push]; exact Nat.ne_of_lt (Nat.lt_succ_of_lt hb0)
        exact hm.heap b o (by simp only [List.mem_cons, List.not_mem_nil, or_false, not_or]; exact ⟨Nat.ne_of_lt hb0, hb2⟩) (Heap.get?_push_of_some _ (Heap.get?_push_of_some _ e))
      · cases r2 with
        | error e => exact hr2
        | ok fl2 =>
          cases fl2 with
          | ret r =>
            obtain ⟨rfl, h', tk, c, rfl, hS', hc', hk'⟩ := hr2
            repeat (any_goals (first | assumption | wp_step))
            exact h _ _ _ hS' hc' hk'
          | _ => exact hr2.elim
    | _ => exact hr.elim
end
end DL

set_option Elab.async false
set_option linter.all false
set_option maxRecDepth 100000
set_option maxHeartbeats 4000000
namespace DL
open PySem L2 PySem.Spec PyProof.Rows
/-! ### sorted(of such a set) -/
def kD : Key → Dt
  | .inl i => .int i
  | .inr x => .str x
theorem kD_inj {k j : Key} (h : kD k = kD j) : k = j := by
  cases k <;> cases j <;> cases h <;> rfl
theorem rel_kfV {P : Program} {w : World} {v : Value} (h : (mixKind P w).is (kfV v) v = true) : RelV (kV (kfV v)) v := by
  rcases keyIs_shape h with ⟨i, t, h1, rfl⟩ | ⟨x, t, h1, rfl⟩
  · exact ⟨t, rfl⟩
  · exact ⟨t, rfl⟩
theorem reads_k {h : Heap} {k : Key} {v : Value} (r : RelV (kV k) v) : ∃ as, Reads h v (kD k).py as ∧ ∀ a : Addr, a ∉ as := by
  cases k with
  | inl i => obtain ⟨t, rfl⟩ := r; exact ⟨_, Reads.int i t, fun a ha => by simp at ha⟩
  | inr x => obtain ⟨t, rfl⟩ := r; exact ⟨_, Reads.str x t, fun a ha => by simp at ha⟩
theorem each_k {P : Program} {w : World} : ∀ {vs : List Value}, (∀ v ∈ vs, (mixKind P w).is (kfV v) v = true) → PySem.W.EachIs (fun u k => RelV (kV k) u) vs (vs.map kfV)
  | [], _ => .nil
  | v :: vs, h => .cons (rel_kfV (h v (List.mem_cons_self ..))) (each_k fun u hu => h u (List.mem_cons_of_mem _ hu))
theorem each_vals : ∀ {us : List Value} {ks : List Key}, PySem.W.EachIs (fun u k => RelV (kV k) u) us ks → Vals (ks.map kV) us
  | _, _, .nil => .nil
  | _, _, .cons h t => .cons h (each_vals t)
section
variable {P : Program} {w : World} {A : Around} {E : Value → Shared → Prop} {s : Shared} {a : Addr}
theorem sorted_setM {S : Key → Bool} {n : Nat} {Q : Value → Shared → Prop} (R : SetM P w s.heap a S n) (hh : A.handled = none) (hu : A.units + 64 < cLine) (hk : (∀ k, S k = true → ∃ i, k = .inl i) ∨ ∀ k, S k = true → ∃ x, k = .inr x)
    (hQ : ∀ s' p (out : Array Value) (c : Nat) (ks : List Key), (∀ b o, s.heap.get? b = some o → s'.heap.get? b = some o) → s'.gens = s.gens → s'.os = s.os → s.heap.objs.size ≤ p →
      s'.heap.get? p = some (seqObj "list" out c) → ks.Nodup → (∀ k, k ∈ ks ↔ S k = true) → ks.length = n → Vals ((ks.mergeSort fun x y => leD (kD x) (kD y)).map kV) out.toList → Q (.ref p) s') :
    wpAny (model P w) A (call (.builtin "sorted") [.ref a]) Q E s := by
  obtain ⟨o, es, ep, t, ho, hex, hd, gd, nd, ms, small, fit, hn, ris, led⟩ := R
  refine Calls.call_function_entry kind_sorted plain_sorted entry_sorted (args_sorted1 _) ?_
  unfold Builtin.«sorted»
  refine wpAny_bind (m := checkCount "sorted" 1 1 _) (wpAny_pure ?_)
  refine wpAny_bind (collect_set (A := A.in1) hh ⟨o, ho, hex.1, hd⟩ fit small ris led fun s1 vs k1 hz g1 o1 pm => ?_)
  have hvl : vs.length = n := by rw [pm.length_eq, List.length_map, Array.length_toList]; exact hn
  have pk : (vs.map kfV).Perm (es.toList.map fun e => kfV e.2) := by
    have q := pm.map kfV
    rw [List.map_map] at q
    exact q
  have his : ∀ v ∈ vs, (mixKind P w).is (kfV v) v = true := fun v hv => by
    obtain ⟨e, he, q⟩ := List.mem_map.mp (pm.mem_iff.mp hv)
    rw [← q]; exact (gd e he).1
  have hmem : ∀ k, k ∈ vs.map kfV ↔ S k = true := fun k => by rw [pk.mem_iff, ← ms k]
  have small' : vs.length ≤ sizeLine := by
    rw [hvl, ← hn]; exact Nat.le_trans (Nat.le_of_lt small) (by decide)
  refine wpAny_bind (wpAny_newList ?_ small')
  have hoL : (s1.heap.push (seqObj "list" vs.toArray 0)).get? s1.heap.objs.size = some (seqObj "list" vs.toArray 0) := Heap.get?_push_size _ rfl
  have ee := each_k his
  have hal : ∀ x ∈ vs.map kfV, ∀ y ∈ vs.map kfV, alk (kD x) (kD y) = true := fun x hx y hy => by
    have sx := (hmem x).mp hx
    have sy := (hmem y).mp hy
    rcases hk with hk | hk
    · obtain ⟨i, rfl⟩ := hk x sx
      obtain ⟨j, rfl⟩ := hk y sy
      rfl
    · obtain ⟨i, rfl⟩ := hk x sx
      obtain ⟨j, rfl⟩ := hk y sy
      rfl
  refine wpAny_bind (wpAny_holding (PySem.W.list_sort_data (enc := fun k : Key => (kD k).py) hoL ee (EachIs.imp_mem ee fun u k _ r => by
      obtain ⟨as, r1, r2⟩ := reads_k (h := s1.heap.push (seqObj "list" vs.toArray 0)) r
      exact ⟨as, r1, r2 _⟩) ?_ ?_ (by simpa using small') ?_ fun out hlen he => ?_))
  · intro d hd d' hd'
    obtain ⟨x, hx, rfl⟩ := List.mem_map.mp hd
    obtain ⟨y, hy, rfl⟩ := List.mem_map.mp hd'
    show PySem.W.alike (kD x).py (kD y).py = true
    rw [alk_py]; exact hal x hx y hy
  · refine .inr fun d hd => ?_
    obtain ⟨x, hx, rfl⟩ := List.mem_map.mp hd
    cases x <;> exact ⟨(fun z => by cases z), (fun _ z => by cases z)⟩
  · intro k _
    have : (kD k).py.depth = 0 := by cases k <;> rfl
    show A.in1.units + 1 + (kD k).py.depth < cLine
    have h1 : A.in1.units = A.units + 1 := rfl
    omega
  · obtain ⟨c, hc⟩ := sortedHeap_at (vs := vs) (out := out.toArray) hoL
    have es' : (vs.map kfV).mergeSort (PySem.W.dataLe false fun k : Key => (kD k).py) = (vs.map kfV).mergeSort fun x y => leD (kD x) (kD y) := by
      have := List.map_mergeSort (r := PySem.W.dataLe false fun k : Key => (kD k).py) (s := fun x y : Key => leD (kD x) (kD y)) (f := id) (l := vs.map kfV) fun p hp q hq => ?_
      · simpa using this
      · show (!PySem.W.dataLt (kD q).py (kD p).py) = !ltD (kD q) (kD p)
        rw [ltD_py _ _ (hal q hq p hp)]
    rw [es'] at he
    refine wpAny_pure ⟨_, rfl, hQ _ s1.heap.objs.size out.toArray c (vs.map kfV) (fun b u e => ?_) g1 o1 hz hc (pk.nodup_iff.mpr nd) hmem (by rw [List.length_map]; exact hvl) (each_vals he)⟩
    have q := k1 b u e
    have hlt := Heap.lt_size q
    show (sortedHeap (s1.heap.push (seqObj "list" vs.toArray 0)) s1.heap.objs.size vs out.toArray).get? b = some u
    rw [sortedHeap_old (Nat.ne_of_lt hlt) (by rw [size_push']; exact Nat.lt_succ_of_lt hlt)]
    exact Heap.get?_push_of_some _ q
end
end DL

set_option Elab.async false
set_option linter.all false
set_option maxRecDepth 100000
set_option maxHeartbeats 4000000
namespace DL
open PySem L2 PySem.Spec PyProof.Rows
/-! ### sorted(set(xs)) over data -/
def SetMO (P : Program) (w : World) (a : Addr) (S : Key → Bool) (n : Nat) : HO := .ext fun h => SetM P w h a S n
theorem setMO_new {w : World} {P : Program} {H : Hp} {h : Heap} {a : Addr} {S : Key → Bool} {n : Nat} (R : SetM P w h a S n) : ObjOk P w H h a (SetMO P w a S n) := by
  have ⟨o, _, _, _, ho, _⟩ := R
  exact ⟨R, ⟨o, ho⟩, fun h1 h2 p k => SetM.at p k⟩
def oneKind (ks : List Key) : Prop := (∀ k ∈ ks, ∃ i, k = Sum.inl i) ∨ ∀ k ∈ ks, ∃ x, k = Sum.inr x
section
variable {U : Wd} {X : Cx} {a : Expr} {ta : TD U}
def rSetLM (X : Cx) : List V → Hp → VK → Prop := fun vs H Q => ∃ (l : Addr) (ks : List Key), vs = [.ref l] ∧ SqL X.K H l (ks.map kV) ∧ ks.length + 1 < scanBound ∧ ∀ p c, H p = none → Q (.ref p) (upd H p (SetMO X.prog X.w p (inK ks) c))
theorem cr_setLM (hc : X.calm = true) : CallR X (.type "set") (rSetLM X) := by
  intro pins s σ H vs us Q I r h
  obtain ⟨l, ks, rfl, hl, hb, q⟩ := h
  obtain ⟨its, rv, pl, _⟩ := I.list hl
  rw [Vals.ref1 r]
  refine call_set_listM ks (I.ok.hd hc) pl.isList (by simpa using rv) hb fun h' tk c hS hcn hk => ?_
  exact ⟨.ref _, upd H s.heap.objs.size (SetMO X.prog X.w s.heap.objs.size (inK ks) c), I.laid (t' := tk) hk (Nat.le_refl _) (setMO_new hS), rfl, q _ c (I.hok.fresh (Nat.le_refl _))⟩
def rSortedM (X : Cx) : List V → Hp → VK → Prop := fun vs H Q => ∃ (a : Addr) (ks : List Key) (n : Nat), vs = [.ref a] ∧ H a = some (SetMO X.prog X.w a (inK ks) n) ∧ oneKind ks ∧
  ∀ (js : List Key) (p : Addr), js.Nodup → (∀ k, k ∈ js ↔ k ∈ ks) → H p = none → Q (.ref p) (upd H p (.lst ((js.mergeSort fun x y => leD (kD x) (kD y)).map kV)))
theorem cr_sortedM (hc : X.calm = true) (hu : X.A.units + 64 < cLine) : CallR X (.builtin "sorted") (rSortedM X) := by
  intro pins s σ H vs us Q I r h
  obtain ⟨a, ks, n, rfl, ha, ok, q⟩ := h
  have R : SetM X.prog X.w s.heap a (inK ks) n := (I.hok a _ ha).1
  rw [Vals.ref1 r]
  refine sorted_setM R (I.ok.hd hc) hu (ok.imp (fun z k h => z k (inK_iff.mp h)) fun z k h => z k (inK_iff.mp h)) fun s' p out c js hk g o hp hg nd hm hl hv => ?_
  have small : ((js.mergeSort fun x y => leD (kD x) (kD y)).map kV).length ≤ sizeLine := by
    obtain ⟨_, es, _, _, _, _, _, _, _, _, hsm, _, hn, _⟩ := R
    rw [List.length_map, List.length_mergeSort, hl, ← hn]
    exact Nat.le_trans (Nat.le_of_lt hsm) (by decide)
  have hn : H p = none := I.hok.fresh hp
  have J : Inv X pins σ (upd H p (.lst ((js.mergeSort fun x y => leD (kD x) (kD y)).map kV))) { s with heap := s'.heap, gens := s'.gens, drawn := s'.drawn, toks := s'.toks } :=
    I.call (ch := []) (Un.laid hk hp hn) (I.hok.laid hk hp ⟨small, out.toList, c, hv, hg⟩) (by rw [g]; exact I.bare) (fun _ z => nomatch z)
  have e : s' = { s with heap := s'.heap, gens := s'.gens, drawn := s'.drawn, toks := s'.toks } := by
    obtain ⟨h', g', d', t', o'⟩ := s'
    have : o' = s.os := o
    subst this; rfl
  rw [e]
  exact ⟨.ref p, _, J, rfl, q js p nd (fun k => (hm k).trans inK_iff) hn⟩
/-- zs: the members of ks in their order, each once -/
def SSet (ks : List Key) (zs : List Dt) : Prop := ∃ js : List Key, js.Nodup ∧ (∀ k, k ∈ js ↔ k ∈ ks) ∧ zs = sortD (js.map kD)
def gSortSet (x : Dt) (Q : List Dt → Prop) : Prop := match x with
  | .lst xs => ∃ ks : List Key, xs = ks.map kD ∧ oneKind ks ∧ ks.length + 1 < scanBound ∧ ∀ zs, SSet ks zs → Q zs
  | _ => False
theorem din_k {K : PySem.W.Frag} {F : Hp} {k : Key} {v : V} (h : Din K F (kD k) v) : v = kV k := by
  cases k with
  | inl i => exact h
  | inr x => exact h.1
theorem dinL_k {K : PySem.W.Frag} {F : Hp} : ∀ {ks : List Key} {vs : List V}, DinL K F (ks.map kD) vs → vs = ks.map kV ∧ ∀ k ∈ ks, Din K F (kD k) (kV k)
  | [], vs, h => ⟨h, fun k hk => by cases hk⟩
  | k :: ks, vs, ⟨u, us, h1, h2, h3⟩ => by
    obtain ⟨e, r⟩ := dinL_k h3
    have eu := din_k h2
    subst eu
    exact ⟨by rw [h1, e]; rfl, fun j hj => (List.mem_cons.mp hj).elim (fun z => z ▸ h2) (r j)⟩
theorem dinL_of_k {K : PySem.W.Frag} {F : Hp} : ∀ (ks : List Key), (∀ k ∈ ks, Din K F (kD k) (kV k)) → DinL K F (ks.map kD) (ks.map kV)
  | [], _ => rfl
  | k :: ks, h => ⟨_, _, rfl, h k (List.mem_cons_self ..), dinL_of_k ks fun j hj => h j (List.mem_cons_of_mem _ hj)⟩
theorem sortD_keys (js : List Key) : (js.mergeSort fun x y => leD (kD x) (kD y)).map kD = sortD (js.map kD) := List.map_mergeSort fun _ _ _ _ => rfl
theorem df_sortedSet {p1 p2 p3 p4 : Pos} (hc : X.calm = true) (hu : X.A.units + 64 < cLine) (hg : Gl X "sorted") (hm : X.mg "sorted" = none) (hg2 : Gl X "set") (hm2 : X.mg "set" = none) (ha : DB X U a ta)
    (hs : starEach [a] X.env = [(false, eval a X.env)] := by rfl) (hs2 : starEach [.Call (.Name "set" p2) [a] [] p3] X.env = [(false, eval (.Call (.Name "set" p2) [a] [] p3) X.env)] := by rfl) :
    DF X U (.Call (.Name "sorted" p1) [.Call (.Name "set" p2) [a] [] p3] [] p4) (dUnL gSortSet ta) :=
  ⟨fun e => (pe_callB (cr_sortedM hc hu) hg hm (by decide +kernel) (pa_cons (pe_callTy (cr_setLM hc) hg2 hm2 boot_set (pa_cons (ha.run e) pa_nil hs) (by decide) (by decide) hs (by rfl)) pa_nil hs2) (by decide) (by decide) hs2 (by rfl)).weak fun σ H Q ⟨F, ρ, w, Q', R, q, k⟩ => ⟨F, ρ, w, _, R, q, fun x v F1 w1 H1 q1 R1 s1 b1 => by
    unfold gSortSet at q1
    split at q1
    · rename_i xs
      obtain ⟨ks, rfl, ok, hb, q1⟩ := q1
      obtain ⟨l, vs, e1, h1, d1⟩ := R1.bor b1
      subst e1
      obtain ⟨e2, dk⟩ := dinL_k d1
      subst e2
      refine ⟨l, ks, rfl, SqL.of h1, hb, fun p c hp => ?_⟩
      obtain ⟨R2, s2⟩ := R1.laid hp (SetMO X.prog X.w p (inK ks) c)
      refine ⟨p, ks, c, rfl, upd_same, ok, fun js r nd hm hr => ?_⟩
      obtain ⟨R3, f3⟩ := R2.mine hr ((js.mergeSort fun x y => leD (kD x) (kD y)).map kV)
      refine k _ r _ _ w1 _ (q1 (sortD (js.map kD)) ⟨js, nd, hm, rfl⟩) R3 (s1.trans s2) f3 ?_
      rw [← sortD_keys]
      exact dinL_of_k _ fun j hj => Din.mono s2 _ _ (dk j ((hm j).mp (List.mem_mergeSort.mp hj)))
    · exact q1.elim⟩⟩
end
end DL

set_option Elab.async false
set_option linter.all false
set_option maxRecDepth 100000
set_option maxHeartbeats 4000000
namespace DL
open PySem L2 PySem.Spec PyProof.Rows
/-! ### sorted sets of ints -/
theorem leD_int {i j : Int} : leD (.int i) (.int j) = decide (i ≤ j) := by
  show (!(ltD (.int j) (.int i))) = _
  rw [show ltD (.int j) (.int i) = decide (j < i) from rfl]
  by_cases h : i ≤ j
  · rw [decide_eq_true h, decide_eq_false (by omega)]; rfl
  · rw [decide_eq_false h, decide_eq_true (by omega)]; rfl
theorem sset_ints {is : List Int} {zs : List Dt} (h : SSet (is.map Sum.inl) zs) : ∃ es : List Int, zs = es.map Dt.int ∧ es.Pairwise (· < ·) ∧ ∀ e, e ∈ es ↔ e ∈ is := by
  obtain ⟨js, nd, hm, rfl⟩ := h
  have : ∃ ms : List Int, js = ms.map Sum.inl := by
    have : ∀ js : List Key, (∀ k ∈ js, ∃ i : Int, k = Sum.inl i) → ∃ ms : List Int, js = ms.map Sum.inl := by
      intro js
      induction js with
      | nil => exact fun _ => ⟨[], rfl⟩
      | cons k js ih =>
        intro h
        obtain ⟨i, rfl⟩ := h k (List.mem_cons_self ..)
        obtain ⟨ms, rfl⟩ := ih fun k hk => h k (List.mem_cons_of_mem _ hk)
        exact ⟨i :: ms, rfl⟩
    refine this js fun k hk => ?_
    obtain ⟨i, _, e⟩ := List.mem_map.mp ((hm k).mp hk)
    exact ⟨i, e.symm⟩
  obtain ⟨ms, rfl⟩ := this
  have hnd : ms.Nodup := by
    refine List.Pairwise.imp (fun h => ?_) (List.pairwise_map.mp nd)
    exact fun e => h (congrArg Sum.inl e)
  refine ⟨ms.mergeSort fun a b => decide (a ≤ b), ?_, ?_, fun e => ?_⟩
  · unfold sortD
    rw [List.map_map]
    refine (List.map_mergeSort fun a _ b _ => ?_).symm
    exact leD_int.symm
  · have hs := List.pairwise_mergeSort (le := fun a b : Int => decide (a ≤ b)) (fun a b c h1 h2 => decide_eq_true (Int.le_trans (of_decide_eq_true h1) (of_decide_eq_true h2))) (fun a b => by
      rcases Int.le_total a b with h | h
      · rw [decide_eq_true h]; rfl
      · rw [decide_eq_true (p := b ≤ a) h, Bool.or_true]) ms
    have hn2 : (ms.mergeSort fun a b => decide (a ≤ b)).Nodup := (List.mergeSort_perm ms _).nodup_iff.mpr hnd
    refine List.Pairwise.imp₂ (fun a b h1 h2 => ?_) hs hn2
    have := of_decide_eq_true h1
    have h2 : a ≠ b := h2
    omega
  · rw [List.mem_mergeSort]
    have := hm (.inl e)
    constructor
    · intro h
      obtain ⟨i, hi, z⟩ := List.mem_map.mp (this.mp (List.mem_map.mpr ⟨e, h, rfl⟩))
      cases z; exact hi
    · intro h
      obtain ⟨i, hi, z⟩ := List.mem_map.mp (this.mpr (List.mem_map.mpr ⟨e, h, rfl⟩))
      cases z; exact hi
end DL

set_option Elab.async false
set_option linter.all false
set_option maxRecDepth 100000
set_option maxHeartbeats 4000000
namespace DL
open PySem L2 PySem.Spec PyProof.Rows
/-! ### {x for ..} of ints and texts -/
theorem inK_snoc (acc : List Key) (c : Key) : (fun j => inK acc j || decide (j = c)) = inK (acc ++ [c]) := funext fun j => by
  unfold inK
  rw [List.any_append]
  simp [eq_comm]
theorem SetM.typeIs {P : Program} {w : World} {s : Shared} {a : Addr} {S : Key → Bool} {n : Nat} (R : SetM P w s.heap a S n) : s.TypeIs (.ref a) "set" := by
  obtain ⟨o, _, _, _, ho, hex, _⟩ := R
  exact ⟨o, ho, hex.1⟩
section
variable {P : Program} {w : World} {A : Around} {E : Value → Shared → Prop} {s : Shared} {a : Addr} {S : Key → Bool} {n : Nat}
theorem setM_put {k : Key} {u : Value} {Q : Value → Shared → Prop} (R : SetM P w s.heap a S n) (room : n + 1 < scanBound) (r : RelV (kV k) u)
    (hQ : ∀ h' n', n' ≤ n + 1 → Heap.SameBut a s.heap h' → SetM P w h' a (fun j => S j || decide (j = k)) n' → Q .none { s with heap := h', toks := s.toks + 1 }) :
    wpAny (model P w) A (call (.builtin "set.add") [.ref a, u]) Q E s := by
  obtain ⟨kf, sc, is⟩ := kfV_of (P := P) (w := w) r
  refine wpAny_call_entry F.slot_set_add R.typeIs F.entry_set_add ?_ (F.args_set_add_2 _ _)
  unfold Builtin.«set.add» Builtin.Frozenset.oneOther Builtin.Frozenset.addrOf setAdd
  simp only [List.isEmpty_nil, bind_assoc, pure_bind]
  refine wpAny_bind (wpAny_holding (wpAny_bind ((mixKind P w).pyHash is ?_)))
  exact setM_add (s := { s with toks := s.toks + 1 }) R room is kf sc fun h' sb new => wpAny_pure ⟨_, rfl, hQ h' _ (by split <;> omega) sb new⟩
end
section
variable {X : Cx}
theorem addM_ok {pins : List (Addr × Obj)} {σ : L2.St} {H : Hp} {s : Shared} {E : Value → Shared → Prop} {D : Addr} {acc : List Key} {n : Nat} {c : Key} {u : Value} {Q : Value → Shared → Prop} (I : Inv X pins σ H s)
    (hD : H D = some (SetMO X.prog X.w D (inK acc) n)) (room : n + 1 < scanBound) (r : RelV (kV c) u) (h : ∀ s' n', n' ≤ n + 1 → Inv X pins σ (upd H D (SetMO X.prog X.w D (inK (acc ++ [c])) n')) s' → Q .none s') :
    wpAny (model X.prog X.w) X.A (call (.builtin "set.add") [.ref D, u]) Q E s := by
  have R : SetM X.prog X.w s.heap D (inK acc) n := (I.hok D _ hD).1
  refine setM_put R room r fun h' n' hn sb new => ?_
  rw [inK_snoc] at new
  have there : ∃ o, h'.get? D = some o := by
    obtain ⟨o, _, _, _, ho, _⟩ := new
    exact ⟨o, ho⟩
  exact h _ n' hn (I.write (e := D) (t' := s.toks + 1) (by rw [hD]; trivial) (.inl rfl) (fun b o hb ho => (sb.2 b hb).trans ho) there (setMO_new new))
def tSM (P : Program) (w : World) (wi : TI) (g : TG) (tt : TT) (te : TE) (vs : List Nat) : TE := fun σ H Q => wi σ H fun J H1 => ∀ D, H1 D = none → ∃ W : Nat → Nat → Hp → Prop, (∃ m, W 0 m (upd H1 D (SetMO P w D (inK []) 0))) ∧ ∀ i m H, W i m H →
  (J.stop i H ∧ Q (.ref D) H) ∨ (J.go i H ∧ ∃ Nx : Hp → Prop, (∀ H', Nx H' → ∃ m', m' < m ∧ W (i + 1) m' H') ∧ ∀ x H', J.yld i H x H' → g x (wipe σ vs) H' fun σ2 H2 => wipe σ2 vs = wipe σ vs ∧ tt σ2 H2 fun b H3 =>
    if b = true then te σ2 H3 fun y H4 => ∃ (c : Key) (acc : List Key) (n : Nat), y = kV c ∧ H4 D = some (SetMO P w D (inK acc) n) ∧ n + 1 < scanBound ∧ ∀ n', n' ≤ n + 1 → Nx (upd H4 D (SetMO P w D (inK (acc ++ [c])) n')) else Nx H3)
/-- the run of such a comprehension: one set, one turn for each thing of the walk -/
theorem run_setM {pins : List (Addr × Obj)} {s : Shared} {σ : L2.St} {H : Hp} {Q : VK} {elt tg iter : Expr} {ifs : List Expr} {scope : Scope} {own : List (PySem.Str × Nat)} {pos pos' : Pos} {wi : TI} {g : TG} {tt : TT} {te : TE} {use : Option (Value → Sem Unit)} {Qf : Value → Shared → Prop}
    (calm : X.calm = true) (nd : X.N.Nodup) (I : Inv X pins σ H s) (pi : PI X tg iter wi) (ok : BlkOk X.N X.env.scope scope own)
    (cg : ∀ (s : Shared) (H : Hp) (C : Addr) (cl : List (PySem.Str × Addr)) (fp : List Addr), PG (X.blk s H scope (compEnvC scope cl C X.env) fp) tg g)
    (ct : ∀ (s : Shared) (H : Hp) (C : Addr) (cl : List (PySem.Str × Addr)) (fp : List Addr), PTs (X.blk s H scope (compEnvC scope cl C X.env) fp) ifs tt)
    (ce : ∀ (s : Shared) (H : Hp) (C : Addr) (cl : List (PySem.Str × Addr)) (fp : List Addr), PE (X.blk s H scope (compEnvC scope cl C X.env) fp) elt te) (fo : ∀ x, foldedSetIterable iter X.env x = pure x)
    (q : tSM X.prog X.w wi g tt te (own.map (·.2)) σ H Q)
    (fin : ∀ D C s' m H', Inv X pins σ H' s' → Q (.ref D) H' → s'.heap.Ns C m → FpOk X pins H' C → compPost (model X.prog X.w) X.A X.xe use Qf (.ref D) C (.ok .next) s') :
    wpAny (model X.prog X.w) X.A (comprehension (.SetComp elt [⟨tg, iter, ifs, 0⟩] scope pos) scope X.env pos' (newSet (.type "set")) false (eval iter X.env) use) Qf X.xe s := by
  have frees : ∀ y ∈ scope.names, y.2 = .free → ∃ c, X.env.cells.lookup y.1 = some c := fun y hy e => (ok.free y hy e).elim (fun k => I.ok.has _ (.inl k)) fun k => I.ok.has _ (.inr k)
  refine wpAny_comprehension_free (use := use) rfl fo (closure_ok frees) ok.kind (fun y hy e => by rw [ok.uniq y hy, e])
    (thn (pi.run pins s σ H _ I q) fun _ _ hx => thn hx fun _ sB hB => ?_)
  obtain ⟨it, fp, tn, J, HB, rfl, IB, T, stB, fB, q⟩ := hB
  refine PpSet.newSet_ok (newEnv_comp ?_)
  -- the new set
  obtain ⟨D, hD⟩ : ∃ D, sB.heap.objs.size = D := ⟨_, rfl⟩
  rw [hD]
  obtain ⟨W, ⟨m0, w0⟩, turn⟩ := q D (IB.hok.fresh (Nat.le_of_eq hD))
  obtain ⟨sC, hsC⟩ : ∃ sC : Shared, { sB with heap := sB.heap.push (newSetO X.w) } = sC := ⟨_, rfl⟩
  obtain ⟨HC, hHC⟩ : ∃ HC, upd HB D (SetMO X.prog X.w D (inK []) 0) = HC := ⟨_, rfl⟩
  rw [hHC] at w0
  have heapC : sC.heap = sB.heap.push (newSetO X.w) := by rw [← hsC]
  have IC : Inv X pins σ HC sC := by
    rw [← hsC, ← hHC]
    refine IB.laid (t' := sB.toks) (fun b o e => Heap.get?_push_of_some _ e) (Nat.le_of_eq hD) (setMO_new ?_)
    have := setM_new_at (P := X.prog) (ks := []) (show (sB.heap.push (newSetO X.w)).get? sB.heap.objs.size = some (newSetO X.w) from Heap.get?_push_size _ rfl)
    rw [hD] at this
    exact this
  have lt : ∀ b ∈ fp, b < sB.heap.objs.size := fun b hb => by
    obtain ⟨o, e, _⟩ := T.obj _ _ stB b hb
    exact Heap.lt_size e
  have fC : ∀ b ∈ fp, FpOk X pins HC b ∧ b < sC.heap.objs.size := fun b hb => ⟨⟨by
    rw [← hHC, upd_ne (by rw [← hD]; exact Nat.ne_of_lt (lt b hb))]
    exact (fB b hb).1, (fB b hb).2⟩, by rw [heapC, Heap.size_push]; exact Nat.lt_succ_of_lt (lt b hb)⟩
  have nC : ∀ b ∈ fp, HC b = none := fun b hb => (fC b hb).1.1
  have stC : tn 0 sC.heap := T.keep _ _ _ stB fun b _ o e => by rw [heapC]; exact Heap.get?_push_of_some _ e
  -- the block
  have IE := block_start IC ok nd fC
  have pg := cg sC HC sC.heap.objs.size (cellsFrom (sC.heap.objs.size + 1) scope.names (cloFrom X.env.cells scope.names [])) fp
  have pt := ct sC HC sC.heap.objs.size (cellsFrom (sC.heap.objs.size + 1) scope.names (cloFrom X.env.cells scope.names [])) fp
  have pe := ce sC HC sC.heap.objs.size (cellsFrom (sC.heap.objs.size + 1) scope.names (cloFrom X.env.cells scope.names [])) fp
  rw [hsC]
  show codeAny _ _ (.compStart (.SetComp elt [⟨tg, iter, ifs, 0⟩] scope pos) 0 (.ref it) (.ref D) (compEnvC scope (cellsFrom (sC.heap.objs.size + 1) scope.names (cloFrom X.env.cells scope.names [])) sC.heap.objs.size X.env)) (compPost (model X.prog X.w) X.A X.xe use Qf (.ref D) sC.heap.objs.size) { sC with heap := pushCells (sC.heap.push { cls := .type "dict", data := .dict #[] }) scope.names }
  obtain ⟨en, hen⟩ : ∃ en, compEnvC scope (cellsFrom (sC.heap.objs.size + 1) scope.names (cloFrom X.env.cells scope.names [])) sC.heap.objs.size X.env = en := ⟨_, rfl⟩
  have loc : en.locals = sC.heap.objs.size := by rw [← hen]; rfl
  rw [hen] at IE pg pt pe ⊢
  obtain ⟨sE, hsE⟩ : ∃ sE : Shared, { sC with heap := pushCells (sC.heap.push { cls := .type "dict", data := .dict #[] }) scope.names } = sE := ⟨_, rfl⟩
  rw [hsE] at IE ⊢
  have stE : tn 0 sE.heap := T.keep _ _ _ stC fun b _ o e => by rw [← hsE]; exact pushCells_keeps _ _ _ _ (Heap.get?_push_of_some _ e)
  have foot : ∀ {σ' : L2.St} {H' : Hp} {s' : Shared}, Inv (X.blk sC HC scope en fp) [] σ' H' s' → (∀ b ∈ fp, H' b = none) → ∀ b ∈ fp, FpOk (X.blk sC HC scope en fp) [] H' b := fun {σ' H' s'} I' free b hb =>
    ⟨free b hb, (I'.ok.exf b hb).1, I'.ok.exfs b hb, .inl hb, fun x c e => (I'.ok.exf b hb).2 x c e, fun p hp => absurd (show p ∈ ([] : List (Addr × Obj)) ++ [] from hp) (by simp)⟩
  have len : (wipe σ (own.map (·.2))).length = σ.length := wipe_length ..
  have loop : codeAny (model X.prog X.w) X.A (.compLoop (.SetComp elt [⟨tg, iter, ifs, 0⟩] scope pos) 0 (.ref it) (.ref D) en) (compPost (model X.prog X.w) X.A X.xe use Qf (.ref D) sC.heap.objs.size) sE := by
    refine PpSet.compLoopS_any (fun n s' => ∃ i H', Inv (X.blk sC HC scope en fp) [] (wipe σ (own.map (·.2))) H' s' ∧ tn i s'.heap ∧ (∀ b ∈ fp, H' b = none) ∧ W i n H') ?_ m0 ⟨0, HC, IE, stE, nC, w0⟩
    rintro n s1 ⟨i, H1, I1, st1, n1, w1⟩
    rcases turn i n H1 w1 with ⟨stop, q1⟩ | ⟨more, Nx, hNx, step⟩
    · refine thnF (T.done (X.blk sC HC scope en fp) rfl rfl rfl calm i [] s1 _ H1 (fun _ _ => False) I1 (foot I1 n1) st1 stop) fun _ s2 ⟨e, I2⟩ => ?_
      cases e
      have back : Inv X pins σ H1 s2 := IC.call' (ch := fp) I2.os I2.base I2.hok I2.bare fun b hb => by
        obtain ⟨_, k1, k2, k3, k4, k5⟩ := (fC b hb).1
        exact ⟨k3, k1, k4, k5⟩
      have free : H1 sC.heap.objs.size = none := by
        have z : H1 en.locals = none := I2.free
        rw [loc] at z; exact z
      obtain ⟨m, ns, _⟩ := I2.loc
      have ns : s2.heap.Ns en.locals m := ns
      rw [loc] at ns
      exact fin D _ s2 m H1 back q1 ns (IC.fpOk (Nat.le_refl _) free)
    · refine thnF (T.item (X.blk sC HC scope en fp) rfl rfl rfl calm i [] s1 _ H1 (fun _ _ => False) I1 (foot I1 n1) st1 more) fun _ s2 ⟨u, e, h2⟩ => ?_
      cases e
      refine thnF h2 fun _ s3 ⟨x, H3, I3, r3, y3, st3, n3⟩ => ?_
      have P3 := I3.pinned (foot I3 n3) (T.obj _ _ st3)
      refine thnF (pg.run _ s3 _ H3 x u _ P3 r3 (step x H3 y3)) fun _ s4 ⟨σ4, H4, I4, e4, q4⟩ => ?_
      refine thnF (pt.run _ s4 σ4 H4 _ I4 q4) fun b s5 ⟨H5, I5, q5⟩ => ?_
      have again : ∀ {s' : Shared} {H' : Hp}, Inv (X.blk sC HC scope en fp) ([] ++ pinsAt fp s3.heap) σ4 H' s' → Nx H' → ∃ m, m < n ∧ ∃ i H', Inv (X.blk sC HC scope en fp) [] (wipe σ (own.map (·.2))) H' s' ∧ tn i s'.heap ∧ (∀ b ∈ fp, H' b = none) ∧ W i m H' := fun {s' H'} I' nx => by
        obtain ⟨m, less, w'⟩ := hNx H' nx
        have pin : ∀ b ∈ fp, ∀ o, s3.heap.get? b = some o → s'.heap.get? b = some o ∧ H' b = none := fun b hb o e => by
          have z := I'.pin (b, o) (List.mem_append_right _ (List.mem_append_right _ (mem_pinsAt hb e)))
          exact ⟨z.1, z.2.1⟩
        refine ⟨m, less, i + 1, H', (I'.unpinned (pins := [])).weak (by rw [← e4, wipe_length]) (fun j v e => ?_), T.keep _ _ _ st3 fun b hb o e => (pin b hb o e).1, fun b hb => ?_, w'⟩
        · rw [← e4] at e
          exact (wipe_some e).1
        · obtain ⟨o, e, _⟩ := T.obj _ _ st3 b hb
          exact (pin b hb o e).2
      cases b with
      | false =>
        simp only [Bool.false_eq_true, if_false] at q5 ⊢
        exact again I5 q5
      | true =>
        simp only [if_true] at q5 ⊢
        refine thnF (pe.run _ s5 σ4 H5 _ I5 q5) fun z s6 ⟨y, H6, I6, r6, c, acc, k, ey, at6, room, nx⟩ => ?_
        subst ey
        exact addM_ok (X := X.blk sC HC scope en fp) I6 at6 room r6 fun s7 k' hk I7 => again I7 (nx k' hk)
  exact PpSet.codeAny_compStart_set loop (T.self X.A 0 _ _ _ stE loop)
theorem pe_scM {elt tg iter : Expr} {ifs : List Expr} {scope : Scope} {own : List (PySem.Str × Nat)} {pos : Pos} {wi : TI} {g : TG} {tt : TT} {te : TE} (calm : X.calm = true) (nd : X.N.Nodup) (pi : PI X tg iter wi) (ok : BlkOk X.N X.env.scope scope own)
    (cg : ∀ (s : Shared) (H : Hp) (C : Addr) (cl : List (PySem.Str × Addr)) (fp : List Addr), PG (X.blk s H scope (compEnvC scope cl C X.env) fp) tg g)
    (ct : ∀ (s : Shared) (H : Hp) (C : Addr) (cl : List (PySem.Str × Addr)) (fp : List Addr), PTs (X.blk s H scope (compEnvC scope cl C X.env) fp) ifs tt)
    (ce : ∀ (s : Shared) (H : Hp) (C : Addr) (cl : List (PySem.Str × Addr)) (fp : List Addr), PE (X.blk s H scope (compEnvC scope cl C X.env) fp) elt te) (fo : ∀ x, foldedSetIterable iter X.env x = pure x := by intro _; rfl) :
    PE X (.SetComp elt [⟨tg, iter, ifs, 0⟩] scope pos) (tSM X.prog X.w wi g tt te (own.map (·.2))) := ⟨fun pins s σ H Q I q => by
  rw [PpSet.eval_SetComp]
  exact run_setM calm nd I pi ok cg ct ce fo q fun D C s' m H' I' q' ns f => ⟨m, ns, fun h'' sb => ⟨.ref D, H', I'.turned (t' := s'.toks) (fun b o hb e => (sb.2 b hb).trans e) f.1 f.2.1 f.2.2.2.1 f.2.2.2.2.1 f.2.2.2.2.2, rfl, q'⟩⟩⟩
end
end DL

set_option Elab.async false
set_option linter.all false
set_option maxRecDepth 100000
set_option maxHeartbeats 4000000
namespace DL
open PySem L2
/-! ### sorted({x for ..}) over data -/
section
variable {U : Wd} {X : Cx} {a b c ex : Expr} {ta tb tc : TD U} {pos : Pos}
/-- a thing of our own that is no list -/
structure OwnX (U : Wd) (e : Ent U) (F : Hp) (w : U.W) (H : Hp) (l : Addr) (o : HO) : Prop where
  hl : H l = some o
  fl : F l = none
  nf : ¬ U.foot w l
  el : e.H l = none
theorem OwnX.after {e : Ent U} {F F' H H' : Hp} {w w' : U.W} {l : Addr} {o : HO} (O : OwnX U e F w H l o) (C : Bas U ⟨F, H, w⟩ F' w' H') : OwnX U e F' w' H' l o := by
  refine ⟨C.keep _ _ O.hl O.nf, ?_, fun h => ?_, O.el⟩
  · cases q : F' l with
    | none => rfl
    | some u =>
      have := C.new l u q O.fl
      have h : H l = some o := O.hl
      rw [show H l = none from this] at h; cases h
  · rcases C.foot l h with k | k
    · exact O.nf k
    · have h : H l = some o := O.hl
      rw [show H l = none from k] at h; cases h
theorem Bas.writeX {e : Ent U} {F H : Hp} {w : U.W} (B : Bas U e F w H) {p : Addr} {o : HO} (O : OwnX U e F w H p o) (o' : HO) : Bas U e F w (upd H p o') ∧ OwnX U e F w (upd H p o') p o' := by
  have nf : ∀ a, U.foot w a → a ≠ p := fun a h z => O.nf (z ▸ h)
  refine ⟨⟨fun b u h => ?_, U.stay B.rep (Same.refl _) fun a h => ⟨(U.free B.rep h).1, upd_ne (nf a h)⟩, B.f, fun b u h hf => ?_, fun b u h => ?_, B.new, B.foot⟩, upd_same, O.fl, O.nf, O.el⟩
  · rw [upd_ne (ne_of_none h O.fl)]; exact B.fh _ _ h
  · rw [upd_ne (ne_of_none h O.el)]; exact B.keep _ _ h hf
  · rw [upd_ne (ne_of_none h O.el)]; exact B.there _ _ h
theorem Bas.freezeX {e : Ent U} {F H : Hp} {w : U.W} (B : Bas U e F w H) {p : Addr} {o : HO} (O : OwnX U e F w H p o) : Bas U e (upd F p o) w H ∧ Same F (upd F p o) := by
  have nf : ∀ a, U.foot w a → a ≠ p := fun a h z => O.nf (z ▸ h)
  have sf : Same F (upd F p o) := fun b u h => by rw [upd_ne (ne_of_none h O.fl)]; exact h
  refine ⟨⟨fun b u h => ?_, U.stay B.rep sf fun a h => ⟨by rw [upd_ne (nf a h)]; exact (U.free B.rep h).1, rfl⟩, B.f.trans sf, B.keep, B.there, fun b u h h0 => ?_, B.foot⟩, sf⟩
  · by_cases hb : b = p
    · subst hb; rw [upd_same] at h; cases h; exact O.hl
    · rw [upd_ne hb] at h; exact B.fh _ _ h
  · by_cases hb : b = p
    · rw [hb]; exact O.el
    · rw [upd_ne hb] at h; exact B.new _ _ h h0
def goS (g : TDG U) (tt : TDT U) (te : TD U) (ρ : Rho) : List Dt → List Key → U.W → (List Key → U.W → Prop) → Prop
  | [], acc, w, Q => Q acc w
  | d :: ds, acc, w, Q => g d ρ w fun ρ1 w1 => tt ρ1 w1 fun k w2 => if k = true then te ρ1 w2 fun x w3 => acc.length + 1 < scanBound ∧ ∃ c, x = kD c ∧ goS g tt te ρ ds (acc ++ [c]) w3 Q else goS g tt te ρ ds acc w2 Q
def dSortSC (ti : TDL U) (g : TDG U) (tt : TDT U) (te : TD U) (vs : List Nat) : TDL U := fun ρ w Q => ti ρ w fun ds w1 => goS g tt te (inR ρ vs) ds [] w1 fun ks w2 => oneKind ks ∧ ∀ zs, SSet ks zs → Q zs w2
theorem wipe_again : ∀ (ws us : List Nat) (τ : St), (∀ j ∈ us, j ∈ ws) → wipe (wipe τ ws) us = wipe τ ws := by
  intro ws us τ
  induction us with
  | nil => intro _; rfl
  | cons y ys ih =>
    intro hs
    show (wipe (wipe τ ws) ys).set y none = wipe τ ws
    rw [ih fun j hj => hs j (List.mem_cons_of_mem _ hj)]
    have hy : y ∈ ws := hs y (List.mem_cons_self ..)
    apply List.ext_getElem?
    intro n
    by_cases hn : y = n
    · subst hn
      by_cases hl : y < (wipe τ ws).length
      · rw [List.getElem?_set_self hl]
        have : (wipe τ ws)[y]? = some none := by
          cases qq : (wipe τ ws)[y]? with
          | none => rw [List.getElem?_eq_none_iff] at qq; omega
          | some o =>
            cases o with
            | none => rfl
            | some v => exact absurd hy (wipe_some qq).2
        exact this.symm
      · rw [List.getElem?_eq_none (by simpa using hl), List.getElem?_eq_none (by simpa using hl)]
    · rw [List.getElem?_set_ne hn]
theorem up_sc {P : Program} {wd : World} {K : PySem.W.Frag} {e : Ent U} {js : List Nat} {ti : TDL U} {g : TDG U} {tt : TDT U} {te : TD U} {vs : List Nat} (hjs : ∀ j ∈ js, j ∈ vs) {σ : St} {H : Hp} {Q : VK} {Q1 : List Key → U.W → Prop} {F : Hp} {ρ : Rho} {w : U.W}
    (R : Rel U K e F ρ w σ H) (q : ti ρ w fun ds w1 => goS g tt te (inR ρ vs) ds [] w1 Q1)
    (k : ∀ acc n D F' w' H', Q1 acc w' → Rel U K e F' ρ w' σ H' → Same F F' → (∀ c ∈ acc, Din K F' (kD c) (kV c)) → H' D = some (SetMO P wd D (inK acc) n) → Q (.ref D) H') :
    tSM P wd (upI U K e ti) (upGx U K js g) (upTx U K tt) (upx U K te) vs σ H Q := by
  refine ⟨F, ρ, w, _, R, q, fun ds F1 w1 H1 J q1 R1 s1 Wk D hD => ?_⟩
  have S0 : Bas U ⟨F1, H1, w1⟩ F1 w1 (upd H1 D (SetMO P wd D (inK []) 0)) := ((Bas.start R1.bas.fh R1.bas.rep).mine hD _).1
  obtain ⟨_, fp, nf, ep⟩ := R1.bas.mine hD (SetMO P wd D (inK []) 0)
  let I : Nat → Hp → Prop := fun i H' => ∃ F' w' acc n, Bas U ⟨F1, H1, w1⟩ F' w' H' ∧ OwnX U ⟨F1, H1, w1⟩ F' w' H' D (SetMO P wd D (inK acc) n) ∧ (n ≤ acc.length) ∧ (∀ c ∈ acc, Din K F' (kD c) (kV c)) ∧ goS g tt te (inR ρ vs) (ds.drop i) acc w' Q1
  refine ⟨fun i m H' => m = ds.length - i ∧ i ≤ ds.length ∧ I i H', ⟨ds.length, by simp, Nat.zero_le _, F1, w1, [], 0, S0, ⟨upd_same, fp, nf, hD⟩, Nat.le_refl _, (fun c hc => by cases hc), q1⟩, ?_⟩
  rintro i m H' ⟨rfl, hi, F', w', acc, n, C, O, hn, d, go⟩
  by_cases hlt : i < ds.length
  · right
    have Rin := R1.inner C vs
    refine ⟨Wk.go Rin C.f hlt, I (i + 1), fun H2 p => ⟨ds.length - (i + 1), by omega, rfl, hlt, p⟩, fun x H2 hy => ?_⟩
    obtain ⟨F2, R2, s2, d2, kp⟩ := Wk.yld Rin C.f (List.getElem?_eq_getElem hlt) hy
    rw [List.drop_eq_getElem_cons hlt] at go
    refine ⟨⟨F', H', w'⟩, F2, inR ρ vs, w', ds[i], _, R2, d2, go, fun ρ3 w3 σ3 F3 H3 q3 R3 s3 g3 => ⟨?_, ⟨F', H', w'⟩, F3, ρ3, w3, _, R3, q3, fun b F4 w4 H4 q4 R4 s4 => ?_⟩⟩
    · rw [g3 vs hjs]
      exact wipe_again vs vs σ fun _ h => h
    · cases b with
      | true =>
        rw [if_pos rfl] at q4 ⊢
        refine ⟨⟨F', H', w'⟩, F4, ρ3, w4, _, R4, q4, fun y v5 F5 w5 H5 ⟨hz, c, ey, q5⟩ R5 s5 d5 => ?_⟩
        subst ey
        have C5 : Bas U ⟨F', H', w'⟩ F5 w5 H5 := R5.bas
        have O5 := O.after C5
        refine ⟨c, acc, n, din_k d5, O5.hl, by omega, fun n' hn' => ?_⟩
        obtain ⟨B6, O6⟩ := (C.trans C5).writeX O5 (SetMO P wd D (inK (acc ++ [c])) n')
        refine ⟨F5, w5, acc ++ [c], n', B6, O6, by rw [List.length_append]; show n' ≤ acc.length + 1; omega, fun j hj => ?_, q5⟩
        rcases List.mem_append.mp hj with hj | hj
        · exact Din.mono C5.f _ _ (d j hj)
        · cases List.mem_singleton.mp hj
          have := din_k d5
          rw [← this]; exact d5
      | false =>
        rw [if_neg Bool.false_ne_true] at q4 ⊢
        have C4 : Bas U ⟨F', H', w'⟩ F4 w4 H4 := R4.bas
        exact ⟨F4, w4, acc, n, C.trans C4, O.after C4, hn, fun j hj => Din.mono C4.f _ _ (d j hj), q4⟩
  · left
    have e1 : i = ds.length := by omega
    subst e1
    refine ⟨Wk.stop (R1.inner C vs) C.f (Nat.le_refl _), ?_⟩
    rw [List.drop_length] at go
    exact k acc n D F' w' H' go (R1.after C) (s1.trans C.f) d O.hl
theorem df_sortedSC {elt tg iter : Expr} {ifs : List Expr} {scope : Scope} {own : List (Str × Nat)} {js : List Nat} {ti : TDL U} {g : TDG U} {tt : TDT U} {te : TD U} {p1 p4 : Pos} (hc : X.calm = true) (hN : X.N.Nodup)
    (hi : DI X U tg iter ti) (ok : BlkOk X.N X.env.scope scope own)
    (hg : ∀ (s : Shared) (H : Hp) (C : Addr) (cl : List (Str × Addr)) (fp : List Addr), DG (X.blk s H scope (compEnvC scope cl C X.env) fp) U tg js g) (ht : ∀ (s : Shared) (H : Hp) (C : Addr) (cl : List (Str × Addr)) (fp : List Addr), DTs (X.blk s H scope (compEnvC scope cl C X.env) fp) U ifs tt)
    (he : ∀ (s : Shared) (H : Hp) (C : Addr) (cl : List (Str × Addr)) (fp : List Addr), DE (X.blk s H scope (compEnvC scope cl C X.env) fp) U elt te) (hu : X.A.units + 64 < cLine) (hgl : Gl X "sorted") (hm : X.mg "sorted" = none) (hjs : ∀ j ∈ js, j ∈ own.map (·.2) := by decide) (hs : ∀ x, foldedSetIterable iter X.env x = pure x := by intro _; rfl)
    (hs2 : starEach [.SetComp elt [⟨tg, iter, ifs, 0⟩] scope pos] X.env = [(false, eval (.SetComp elt [⟨tg, iter, ifs, 0⟩] scope pos) X.env)] := by rfl) :
    DF X U (.Call (.Name "sorted" p1) [.SetComp elt [⟨tg, iter, ifs, 0⟩] scope pos] [] p4) (dSortSC ti g tt te (own.map (·.2))) :=
  ⟨fun e => (pe_callB (cr_sortedM hc hu) hgl hm (by decide +kernel) (pa_cons (pe_scM (g := upGx U X.K js g) (tt := upTx U X.K tt) (te := upx U X.K te) hc hN (hi.run e) ok (fun s H C cl fp => (hg s H C cl fp).x) (fun s H C cl fp => (ht s H C cl fp).x) (fun s H C cl fp => (he s H C cl fp).x) hs) pa_nil hs2) (by decide) (by decide) hs2 (by rfl)).weak fun σ H Q ⟨F, ρ, w, Q', R, q, k⟩ => by
    refine up_sc (P := X.prog) (wd := X.w) (Q := fun v H1 => rSortedM X [v] H1 Q) (Q1 := fun ks w2 => oneKind ks ∧ ∀ zs, SSet ks zs → Q' zs w2) hjs R q fun ks n D F1 w1 H1 q0 R1 s1 dk hD => ?_
    obtain ⟨ok, q1⟩ := q0
    refine ⟨D, ks, n, rfl, hD, ok, fun js r nd hm hr => ?_⟩
    obtain ⟨R3, f3⟩ := R1.mine hr ((js.mergeSort fun x y => leD (kD x) (kD y)).map kV)
    refine k _ r _ F1 w1 _ (q1 (sortD (js.map kD)) ⟨js, nd, hm, rfl⟩) R3 s1 f3 ?_
    rw [← sortD_keys]
    exact dinL_of_k _ fun j hj => dk j ((hm j).mp (List.mem_mergeSort.mp hj))⟩
theorem ev_sc {ti : TDL U} {g : TDG U} {tt : TDT U} {te : TD U} {vs : List Nat} {ρ : Rho} {w : U.W} {Q : List Dt → U.W → Prop} : dSortSC ti g tt te vs ρ w Q = ti ρ w fun ds w1 => goS g tt te (inR ρ vs) ds [] w1 fun ks w2 => oneKind ks ∧ ∀ zs, SSet ks zs → Q zs w2 := rfl
/-- every thing of the walk gives one key -/
theorem goS_map {g : TDG U} {te : TD U} {ρ : Rho} {w : U.W} {Q : List Key → U.W → Prop} (f : Dt → Key) : ∀ (ds : List Dt) (acc : List Key), (∀ d ∈ ds, ∀ R : Dt → U.W → Prop, R (kD (f d)) w → g d ρ w fun ρ1 w1 => te ρ1 w1 R) → acc.length + ds.length + 1 < scanBound → Q (acc ++ ds.map f) w → goS g dYes te ρ ds acc w Q
  | [], acc, _, _, h => by simpa [goS] using h
  | d :: ds, acc, hd, hl, h => by
    simp only [List.length_cons] at hl
    unfold goS
    simp only [ev_yes, if_true]
    exact hd d (List.mem_cons_self ..) _ ⟨by omega, f d, rfl, goS_map f ds _ (fun d' h' => hd d' (List.mem_cons_of_mem _ h')) (by rw [List.length_append, List.length_singleton]; omega) (by simpa using h)⟩
end
end DL

set_option Elab.async false
set_option linter.all false
set_option maxRecDepth 100000
set_option maxHeartbeats 4000000
namespace DL
open PySem L2 PySem.Spec PyProof.Rows
/-! ### sorted sets of texts -/
theorem ltS_irr (x : Str) : ltS x x = false := decide_eq_false (List.lt_irrefl _)
theorem ltS_trans {x y z : Str} (h1 : ltS x y = true) (h2 : ltS y z = true) : ltS x z = true := decide_eq_true (List.lt_trans (of_decide_eq_true h1) (of_decide_eq_true h2))
theorem str_ext {x y : Str} (h : x.cps.toList = y.cps.toList) : x = y := by
  cases x; cases y
  simp only at h
  congr 1
  exact Array.toList_inj.mp h
theorem ltS_tri {x y : Str} (h1 : ltS x y = false) (h2 : ltS y x = false) : x = y := str_ext (List.le_antisymm (show ¬ _ < _ from of_decide_eq_false h2) (show ¬ _ < _ from of_decide_eq_false h1))
/-- strictly rising lists of the same members -/
theorem strict_uniq {α : Type} {lt : α → α → Bool} (irr : ∀ a, lt a a = false) (tr : ∀ a b c, lt a b = true → lt b c = true → lt a c = true) : ∀ {l l' : List α}, l.Pairwise (fun a b => lt a b = true) → l'.Pairwise (fun a b => lt a b = true) → (∀ a, a ∈ l ↔ a ∈ l') → l = l'
  | [], [], _, _, _ => rfl
  | [], b :: t, _, _, h => by have := (h b).mpr (List.mem_cons_self ..); cases this
  | a :: t, [], _, _, h => by have := (h a).mp (List.mem_cons_self ..); cases this
  | a :: t, b :: t', h1, h2, h => by
    obtain ⟨a1, a2⟩ := List.pairwise_cons.mp h1
    obtain ⟨b1, b2⟩ := List.pairwise_cons.mp h2
    have e : a = b := by
      rcases List.mem_cons.mp ((h a).mp (List.mem_cons_self ..)) with e | ha
      · exact e
      · rcases List.mem_cons.mp ((h b).mpr (List.mem_cons_self ..)) with e | hb
        · exact e.symm
        · have := tr _ _ _ (a1 b hb) (b1 a ha)
          rw [irr] at this; cases this
    subst e
    rw [strict_uniq irr tr a2 b2 fun x => ⟨fun hx => ?_, fun hx => ?_⟩]
    · rcases List.mem_cons.mp ((h x).mp (List.mem_cons_of_mem _ hx)) with rfl | k
      · have := a1 x hx
        rw [irr] at this; cases this
      · exact k
    · rcases List.mem_cons.mp ((h x).mpr (List.mem_cons_of_mem _ hx)) with rfl | k
      · have := b1 x hx
        rw [irr] at this; cases this
      · exact k
def insT (s : Str) : List Str → List Str
  | [] => [s]
  | t :: l => if s = t then t :: l else if ltS s t then s :: t :: l else t :: insT s l
theorem insT_mem (s x : Str) : ∀ l, x ∈ insT s l ↔ x = s ∨ x ∈ l
  | [] => by simp [insT]
  | t :: l => by
    unfold insT
    split
    · rename_i e; subst e; simp
    · split
      · simp
      · rw [List.mem_cons, List.mem_cons, insT_mem s x l]
        constructor
        · rintro (h | h | h) <;> simp [h]
        · rintro (h | h | h) <;> simp [h]
theorem insT_up (s : Str) : ∀ l : List Str, l.Pairwise (fun a b => ltS a b = true) → (insT s l).Pairwise (fun a b => ltS a b = true)
  | [], _ => by simp [insT]
  | t :: l, h => by
    obtain ⟨h1, h2⟩ := List.pairwise_cons.mp h
    unfold insT
    split
    · exact h
    · rename_i ne
      cases c : ltS s t with
      | true =>
        rw [if_pos rfl]
        refine List.pairwise_cons.mpr ⟨fun x hx => ?_, h⟩
        rcases List.mem_cons.mp hx with rfl | hx
        · exact c
        · exact ltS_trans c (h1 x hx)
      | false =>
        rw [if_neg Bool.false_ne_true]
        refine List.pairwise_cons.mpr ⟨fun x hx => ?_, insT_up s l h2⟩
        rcases (insT_mem s x l).mp hx with rfl | hx
        · cases c2 : ltS t x with
          | true => rfl
          | false => exact absurd (ltS_tri c c2) ne
        · exact h1 x hx
/-- the texts of a list, rising, each once -/
def txts (xs : List Str) : List Str := xs.foldr insT []
theorem txts_mem {x : Str} : ∀ {xs : List Str}, x ∈ txts xs ↔ x ∈ xs
  | [] => Iff.rfl
  | y :: xs => by
    show x ∈ insT y (txts xs) ↔ _
    rw [insT_mem, txts_mem, List.mem_cons]
theorem txts_up : ∀ xs : List Str, (txts xs).Pairwise fun a b => ltS a b = true
  | [] => List.Pairwise.nil
  | y :: xs => insT_up y _ (txts_up xs)
theorem txts_same {xs ys : List Str} (h : ∀ s, s ∈ xs ↔ s ∈ ys) : txts xs = txts ys :=
  strict_uniq ltS_irr (fun _ _ _ => ltS_trans) (txts_up xs) (txts_up ys) fun s => by rw [txts_mem, txts_mem]; exact h s
theorem leD_str {x y : Str} : leD (.str x) (.str y) = !ltS y x := rfl
theorem sset_txts {xs : List Str} {zs : List Dt} (h : SSet (xs.map Sum.inr) zs) : zs = (txts xs).map Dt.str := by
  obtain ⟨js, nd, hm, rfl⟩ := h
  have all : ∀ js : List Key, (∀ k ∈ js, ∃ i : Str, k = Sum.inr i) → ∃ ms : List Str, js = ms.map Sum.inr := by
    intro js
    induction js with
    | nil => exact fun _ => ⟨[], rfl⟩
    | cons k js ih =>
      intro h
      obtain ⟨i, rfl⟩ := h k (List.mem_cons_self ..)
      obtain ⟨ms, rfl⟩ := ih fun k hk => h k (List.mem_cons_of_mem _ hk)
      exact ⟨i :: ms, rfl⟩
  obtain ⟨ms, rfl⟩ := all js fun k hk => by
    obtain ⟨i, _, e⟩ := List.mem_map.mp ((hm k).mp hk)
    exact ⟨i, e.symm⟩
  have hnd : ms.Nodup := List.Pairwise.imp (fun h => fun e => h (congrArg Sum.inr e)) (List.pairwise_map.mp nd)
  have mem : ∀ e, e ∈ ms ↔ e ∈ xs := fun e => by
    have := hm (.inr e)
    rw [List.mem_map, List.mem_map] at this
    exact ⟨fun h => by obtain ⟨i, hi, z⟩ := this.mp ⟨e, h, rfl⟩; cases z; exact hi, fun h => by obtain ⟨i, hi, z⟩ := this.mpr ⟨e, h, rfl⟩; cases z; exact hi⟩
  have e : sortD ((ms.map Sum.inr).map kD) = (ms.mergeSort fun a b => !ltS b a).map Dt.str := by
    unfold sortD
    rw [List.map_map]
    refine (List.map_mergeSort (f := Dt.str) fun a _ b _ => ?_).symm
    rfl
  rw [e]
  congr 1
  have hs := List.pairwise_mergeSort (le := fun a b : Str => !ltS b a) (fun a b c h1 h2 => by
    cases q : ltS c a with
    | false => rfl
    | true =>
      cases q2 : ltS b c with
      | true =>
        have := ltS_trans q2 q
        simp [this] at h1
      | false =>
        have h2 : ltS c b = false := by simpa using h2
        have := ltS_tri q2 h2
        subst this
        simp [q] at h1) (fun a b => by
      cases q : ltS b a with
      | false => rfl
      | true =>
        cases q2 : ltS a b with
        | false => rfl
        | true =>
          have := ltS_trans q q2
          rw [ltS_irr] at this; cases this) ms
  have hn2 : (ms.mergeSort fun a b => !ltS b a).Nodup := (List.mergeSort_perm ms _).nodup_iff.mpr hnd
  refine strict_uniq ltS_irr (fun _ _ _ => ltS_trans) (List.Pairwise.imp₂ (fun a b h1 h2 => ?_) hs hn2) (txts_up xs) fun s => by rw [List.mem_mergeSort, mem, txts_mem]
  have h2 : a ≠ b := h2
  have h1 : ltS b a = false := by simpa using h1
  cases q : ltS a b with
  | true => rfl
  | false => exact absurd (ltS_tri q h1) h2
end DL

set_option Elab.async false
set_option linter.all false
set_option maxRecDepth 100000
set_option maxHeartbeats 4000000
/-! ### an exception that is kept, tracked as an object -/
namespace L2
open PySem PySem.Spec PyProof.Rows
def ExV (C : Addr) (a : Addr) : HO := .ext fun h => ∃ (oe : Obj) (vs : Array Value), h.get? a = some oe ∧ Zc (.ref C) none oe ∧ oe.data = .fields vs
end L2
namespace DL
open PySem L2 LamX
/-! ### what is known of an object that never changes -/
inductive Kn where
  | exc (C : Addr)
  | pl (K : PySem.W.Frag) (xs : List Dt)
def knOk (F : Hp) (a : Addr) : Kn → Prop
  | .exc C => F a = some (ExV C a)
  | .pl K xs => ∃ (o : Obj) (vs : List V), F a = some (.frz o (.tup vs)) ∧ o.dict = none ∧ DinL K F xs vs
theorem knOk.mono {F F' : Hp} {a : Addr} (s : Same F F') : ∀ {k : Kn}, knOk F a k → knOk F' a k
  | .exc C, h => s _ _ h
  | .pl K xs, ⟨o, vs, h1, h2, h3⟩ => ⟨o, vs, s _ _ h1, h2, DinL.mono s _ _ h3⟩
/-! ### dicts of our own, in the world -/
inductive DC where
  | k (kvs : List (Key × Dt))
  | t (kvs : List (List Key × Dt))
  | o (C : Addr) (fs : List (Str × Dt))
  | l (xs : List Dt)
inductive TK where
  | k (ks : List Key)
  | kn (n : Kn)
structure DV where
  K : PySem.W.Frag
  ds : List (Addr × DC)
  ts : List (Addr × TK)
  tb : List (Addr × Str)
/-- a table of code objects -/
def tabRep (F H : Hp) (p : Addr × Str) : Prop := F p.1 = none ∧ ∃ ps, H p.1 = some (.tbl ps) ∧ TriplesOk ps.toList ∧ ∀ pos cv, codeAmong pos ps.toList = some cv → ∃ c, cv = .ref c ∧ F c = some (CodeO c p.2)
theorem tabRep.stay {F F' H H' : Hp} {p : Addr × Str} (s : Same F F') (e1 : F' p.1 = none) (e : H' p.1 = H p.1) (r : tabRep F H p) : tabRep F' H' p := by
  obtain ⟨f, ps, h, t, k⟩ := r
  refine ⟨e1, ps, e.trans h, t, fun pos cv hc => ?_⟩
  obtain ⟨c, z1, z2⟩ := k pos cv hc
  exact ⟨c, z1, s _ _ z2⟩
def keyOk : Key → Prop
  | .inl _ => True
  | .inr s => PyData.strOk s = true
def tkOk (F : Hp) (b : Addr) : TK → Prop
  | .k ks => F b = some (.tup (ks.map kV)) ∧ ∀ k ∈ ks, keyOk k
  | .kn n => knOk F b n
theorem tkOk.mono {F F' : Hp} {b : Addr} (s : Same F F') : ∀ {t : TK}, tkOk F b t → tkOk F' b t
  | .k ks, h => ⟨s _ _ h.1, h.2⟩
  | .kn n, h => knOk.mono s h
def VD (K : PySem.W.Frag) (F : Hp) {κ : Type} : List (κ × Dt) → List (κ × V) → Prop
  | [], vs => vs = []
  | p :: ps, vs => ∃ v vt, vs = (p.1, v) :: vt ∧ Din K F p.2 v ∧ VD K F ps vt
theorem VD.mono {K : PySem.W.Frag} {F F' : Hp} {κ : Type} (e : Same F F') : ∀ {ps : List (κ × Dt)} {vs : List (κ × V)}, VD K F ps vs → VD K F' ps vs
  | [], _, h => h
  | p :: ps, _, ⟨v, vt, h1, h2, h3⟩ => ⟨v, vt, h1, Din.mono e _ _ h2, VD.mono e h3⟩
theorem VD.keys {K : PySem.W.Frag} {F : Hp} {κ : Type} : ∀ {ps : List (κ × Dt)} {vs : List (κ × V)}, VD K F ps vs → vs.map (·.1) = ps.map (·.1)
  | [], _, h => by cases (show _ = [] from h); rfl
  | p :: ps, _, ⟨v, vt, h1, _, h3⟩ => by subst h1; rw [List.map_cons, List.map_cons, VD.keys h3]
theorem VD.length {K : PySem.W.Frag} {F : Hp} {κ : Type} {ps : List (κ × Dt)} {vs : List (κ × V)} (h : VD K F ps vs) : vs.length = ps.length := by
  have := congrArg List.length h.keys
  rw [List.length_map, List.length_map] at this; exact this
section
variable {κ : Type} [DecidableEq κ]
def dval : List (κ × Dt) → κ → Option Dt
  | [], _ => none
  | p :: ps, k => if p.1 = k then some p.2 else dval ps k
def dhas (ps : List (κ × Dt)) (k : κ) : Bool := ps.any fun p => decide (p.1 = k)
def dput (ps : List (κ × Dt)) (k : κ) (x : Dt) : List (κ × Dt) := if dhas ps k = true then ps.map (fun p => if p.1 = k then (p.1, x) else p) else ps ++ [(k, x)]
theorem VD.val {K : PySem.W.Frag} {F : Hp} {k : κ} : ∀ {ps : List (κ × Dt)} {vs : List (κ × V)}, VD K F ps vs → (∀ x, dval ps k = some x → ∃ v, valV vs k = some v ∧ Din K F x v) ∧ (dval ps k = none → valV vs k = none)
  | [], _, h => by
    cases (show _ = [] from h)
    exact ⟨(fun x z => by cases z), fun _ => rfl⟩
  | p :: ps, _, ⟨v, vt, h1, h2, h3⟩ => by
    subst h1
    unfold dval
    by_cases e : p.1 = k
    · rw [if_pos e, valV_pos (p := (p.1, v)) e]
      exact ⟨(fun x z => by cases z; exact ⟨v, rfl, h2⟩), (fun z => by cases z)⟩
    · rw [if_neg e, valV_neg (p := (p.1, v)) e]
      exact VD.val h3
theorem VD.has {K : PySem.W.Frag} {F : Hp} {k : κ} : ∀ {ps : List (κ × Dt)} {vs : List (κ × V)}, VD K F ps vs → (vs.any fun kv => decide (kv.1 = k)) = dhas ps k
  | [], _, h => by cases (show _ = [] from h); rfl
  | p :: ps, _, ⟨v, vt, h1, h2, h3⟩ => by
    subst h1
    unfold dhas
    rw [List.any_cons, List.any_cons]
    congr 1
    exact VD.has h3
theorem VD.put {K : PySem.W.Frag} {F : Hp} {k : κ} {x : Dt} {v : V} (d : Din K F x v) {ps : List (κ × Dt)} {vs : List (κ × V)} (h : VD K F ps vs) : VD K F (dput ps k x) (putK vs k v) := by
  unfold dput putK
  rw [h.has]
  split
  · have go : ∀ {ps : List (κ × Dt)} {vs : List (κ × V)}, VD K F ps vs → VD K F (ps.map fun p => if p.1 = k then (p.1, x) else p) (vs.map fun kv => if kv.1 = k then (kv.1, v) else kv) := by
      intro ps
      induction ps with
      | nil => intro vs h; cases (show _ = [] from h); rfl
      | cons p ps ih =>
        rintro vs ⟨u, vt, h1, h2, h3⟩
        subst h1
        rw [List.map_cons, List.map_cons]
        by_cases e : p.1 = k
        · refine ⟨v, vt.map _, ?_, ?_, ih h3⟩
          · simp only [if_pos e]
          · simp only [if_pos e]; exact d
        · refine ⟨u, vt.map _, ?_, ?_, ih h3⟩
          · simp only [if_neg e]
          · simp only [if_neg e]; exact h2
    exact go h
  · have go : ∀ {ps : List (κ × Dt)} {vs : List (κ × V)}, VD K F ps vs → VD K F (ps ++ [(k, x)]) (vs ++ [(k, v)]) := by
      intro ps
      induction ps with
      | nil => intro vs h; cases (show _ = [] from h); exact ⟨v, [], rfl, d, rfl⟩
      | cons p ps ih =>
        rintro vs ⟨u, vt, h1, h2, h3⟩
        subst h1
        exact ⟨u, vt ++ [(k, v)], rfl, h2, ih h3⟩
    exact go h
theorem dput_keys {ps : List (κ × Dt)} {k : κ} {x : Dt} {p : κ × Dt} (h : p ∈ dput ps k x) : p.1 = k ∨ ∃ q ∈ ps, q.1 = p.1 := by
  unfold dput at h
  split at h
  · obtain ⟨q, hq, e⟩ := List.mem_map.mp h
    split at e
    · rename_i c; left; rw [← e]; exact c
    · right; exact ⟨q, hq, by rw [e]⟩
  · rcases List.mem_append.mp h with h | h
    · exact .inr ⟨p, h, rfl⟩
    · cases List.mem_singleton.mp h; exact .inl rfl
end
def DcIn (K : PySem.W.Frag) (F H : Hp) (a : Addr) : DC → Prop
  | .k kvs => (∃ vs, H a = some (.dK vs) ∧ VD K F kvs vs) ∧ ∀ p ∈ kvs, keyOk p.1
  | .t kvs => (∃ vs, H a = some (.dT vs) ∧ VD K F kvs vs) ∧ ∀ p ∈ kvs, ∀ k ∈ p.1, keyOk k
  | .o C fs => ∃ dx vs, H a = some (.ins C dx vs) ∧ F dx = some (.own a) ∧ VD K F fs vs
  | .l xs => ∃ vs, H a = some (.lst vs) ∧ DinL K F xs vs
theorem DcIn.some {K : PySem.W.Frag} {F H : Hp} {a : Addr} {c : DC} (h : DcIn K F H a c) : ∃ o, H a = some o := by
  cases c with
  | k kvs => obtain ⟨⟨vs, h, _⟩, _⟩ := h; exact ⟨_, h⟩
  | t kvs => obtain ⟨⟨vs, h, _⟩, _⟩ := h; exact ⟨_, h⟩
  | o C fs => obtain ⟨dx, vs, h, _⟩ := h; exact ⟨_, h⟩
  | l xs => obtain ⟨vs, h, _⟩ := h; exact ⟨_, h⟩
theorem DcIn.noTab {K : PySem.W.Frag} {F H : Hp} {a : Addr} {c : DC} {ps : Array Value} (h : DcIn K F H a c) (z : H a = Option.some (HO.tbl ps)) : False := by
  cases c with
  | k kvs => obtain ⟨⟨vs, h, _⟩, _⟩ := h; rw [z] at h; cases h
  | t kvs => obtain ⟨⟨vs, h, _⟩, _⟩ := h; rw [z] at h; cases h
  | o C fs => obtain ⟨dx, vs, h, _⟩ := h; rw [z] at h; cases h
  | l xs => obtain ⟨vs, h, _⟩ := h; rw [z] at h; cases h
theorem DcIn.stay {K : PySem.W.Frag} {F F' H H' : Hp} {a : Addr} {c : DC} (s : Same F F') (e : H' a = H a) (h : DcIn K F H a c) : DcIn K F' H' a c := by
  cases c with
  | k kvs => obtain ⟨⟨vs, h, d⟩, ok⟩ := h; exact ⟨⟨vs, e.trans h, d.mono s⟩, ok⟩
  | t kvs => obtain ⟨⟨vs, h, d⟩, ok⟩ := h; exact ⟨⟨vs, e.trans h, d.mono s⟩, ok⟩
  | o C fs => obtain ⟨dx, vs, h, f, d⟩ := h; exact ⟨dx, vs, e.trans h, s _ _ f, d.mono s⟩
  | l xs => obtain ⟨vs, h, d⟩ := h; exact ⟨vs, e.trans h, DinL.mono s _ _ d⟩
def dcW : Wd where
  W := DV
  rep := fun F H w => ((∀ a c, (a, c) ∈ w.ds → F a = none ∧ DcIn w.K F H a c) ∧ ∀ p ∈ w.tb, tabRep F H p) ∧ ∀ b t, (b, t) ∈ w.ts → tkOk F b t
  foot := fun w a => (∃ c, (a, c) ∈ w.ds) ∨ ∃ q, (a, q) ∈ w.tb
  free := fun {F H w a} r h => by
    rcases h with ⟨c, h⟩ | ⟨q, h⟩
    · exact ⟨(r.1.1 a c h).1, (r.1.1 a c h).2.some⟩
    · obtain ⟨f, ps, hp, _⟩ := r.1.2 _ h
      exact ⟨f, _, hp⟩
  stay := fun {F H F' H' w} r s h => ⟨⟨fun a c hc => ⟨(h a (.inl ⟨c, hc⟩)).1, DcIn.stay s (h a (.inl ⟨c, hc⟩)).2 (r.1.1 a c hc).2⟩, fun p hp => tabRep.stay s (h p.1 (.inr ⟨p.2, hp⟩)).1 (h p.1 (.inr ⟨p.2, hp⟩)).2 (r.1.2 p hp)⟩, fun b t hb => (r.2 b t hb).mono s⟩
abbrev UD : Wd := tpW dcW
def DV.get (w : DV) (a : Addr) : Option DC := (w.ds.find? fun p => decide (p.1 = a)).map (·.2)
def DV.put (w : DV) (a : Addr) (c : DC) : DV := { w with ds := w.ds.map fun p => if p.1 = a then (p.1, c) else p }
def DV.new (w : DV) (a : Addr) (c : DC) : DV := { w with ds := (a, c) :: w.ds }
theorem DV.get_mem {w : DV} {a : Addr} {c : DC} (h : w.get a = some c) : (a, c) ∈ w.ds := by
  unfold DV.get at h
  cases e : w.ds.find? fun p => decide (p.1 = a) with
  | none => rw [e] at h; cases h
  | some p =>
    rw [e] at h
    cases h
    have h1 := List.find?_some e
    have h1 := of_decide_eq_true (show decide (p.1 = a) = true from h1)
    have h2 := List.mem_of_find?_eq_some e
    rw [← h1]; exact h2
theorem DV.get_new {w : DV} {a : Addr} {c : DC} : (w.new a c).get a = some c := by
  unfold DV.get DV.new
  simp
theorem DV.get_put {w : DV} {a : Addr} {c c' : DC} (h : w.get a = some c) : (w.put a c').get a = some c' := by
  have go : ∀ l : List (Addr × DC), (∃ p ∈ l, p.1 = a) → ((l.map fun p => if p.1 = a then (p.1, c') else p).find? fun p => decide (p.1 = a)).map (·.2) = some c' := by
    intro l
    induction l with
    | nil => rintro ⟨p, hp, _⟩; cases hp
    | cons q l ih =>
      rintro ⟨p, hp, e⟩
      rw [List.map_cons]
      by_cases c : q.1 = a
      · rw [if_pos c, List.find?_cons_of_pos (by exact decide_eq_true c)]; rfl
      · rw [if_neg c, List.find?_cons_of_neg (by simpa using c)]
        refine ih ⟨p, ?_, e⟩
        rcases List.mem_cons.mp hp with rfl | hp
        · exact absurd e c
        · exact hp
  exact go _ ⟨_, DV.get_mem h, rfl⟩
theorem DV.put_mem {w : DV} {a b : Addr} {c c' : DC} (h : (b, c) ∈ (w.put a c').ds) : (b = a ∧ c = c') ∨ (b ≠ a ∧ (b, c) ∈ w.ds) := by
  obtain ⟨p, hp, e⟩ := List.mem_map.mp h
  by_cases q : p.1 = a
  · rw [if_pos q] at e; cases e; exact .inl ⟨q, rfl⟩
  · rw [if_neg q] at e; subst e; exact .inr ⟨q, hp⟩
theorem DV.put_foot {w : DV} {a b : Addr} {c' : DC} (h : dcW.foot (w.put a c') b) : dcW.foot w b := by
  rcases h with h | h
  rotate_left
  · exact .inr h
  refine .inl ?_
  obtain ⟨c, h⟩ := h
  obtain ⟨p, hp, e⟩ := List.mem_map.mp h
  by_cases q : p.1 = a
  · rw [if_pos q] at e; cases e; exact ⟨p.2, hp⟩
  · rw [if_neg q] at e; subst e; exact ⟨_, hp⟩
section
variable {K : PySem.W.Frag} {e : Ent UD} {F : Hp} {ρ : Rho} {w : UD.W} {σ : St} {H : Hp}
theorem Rel.dcAt (R : Rel UD K e F ρ w σ H) {a : Addr} {c : DC} (h : w.2.get a = some c) : F a = none ∧ DcIn w.2.K F H a c := R.bas.rep.1.1.1 a c (DV.get_mem h)
theorem Rel.dWrite (R : Rel UD K e F ρ w σ H) {a : Addr} {c c' : DC} (h : w.2.get a = some c) {o : HO} (d : DcIn w.2.K F (upd H a o) a c') : Rel UD K e F ρ (w.1, w.2.put a c') σ (upd H a o) := by
  have hm := DV.get_mem h
  have fa : F a = none := (R.dcAt h).1
  have fw : UD.foot w a := .inr (.inl ⟨c, hm⟩)
  have ft : ∀ b, UD.foot (w.1, w.2.put a c') b → UD.foot w b := fun b hb => hb.imp id DV.put_foot
  obtain ⟨⟨⟨r1, r3⟩, r2⟩, rt⟩ := R.bas.rep
  have ntab : ∀ p ∈ w.2.tb, p.1 ≠ a := fun p hp z => by
    obtain ⟨_, ps, hz, _⟩ := r3 p hp
    exact (r1 a c hm).2.noTab (z ▸ hz)
  refine ⟨⟨fun b u hb => ?_, ⟨⟨⟨fun b c2 hb => ?_, fun p hp => tabRep.stay (Same.refl _) (r3 p hp).1 (upd_ne (ntab p hp)) (r3 p hp)⟩, fun b ks hb => r2 b ks hb⟩, fun T hT => ?_⟩, R.bas.f, fun b u hb hf => ?_, fun b u hb => ?_, R.bas.new, fun b hb => R.bas.foot b (ft b hb)⟩, R.slot, fun i xs hi => ?_, R.inj, R.len⟩
  · rw [upd_ne (ne_of_none hb fa)]; exact R.bas.fh _ _ hb
  · rcases DV.put_mem hb with ⟨rfl, rfl⟩ | ⟨ne, hb⟩
    · exact ⟨fa, d⟩
    · exact ⟨(r1 b c2 hb).1, DcIn.stay (Same.refl _) (upd_ne ne) (r1 b c2 hb).2⟩
  · obtain ⟨⟨f, L, ns, pos, rest, h1, h2, h3⟩, h4⟩ := rt T hT
    have ne : T ≠ a := fun z => h4 (z ▸ .inl ⟨c, hm⟩)
    exact ⟨⟨f, L, ns, pos, rest, by rw [upd_ne ne]; exact h1, h2, h3⟩, fun z => h4 (DV.put_foot z)⟩
  · have ne : b ≠ a := fun z => by
      subst z
      rcases R.bas.foot _ fw with k | k
      · exact hf k
      · rw [hb] at k; cases k
    rw [upd_ne ne]; exact R.bas.keep _ _ hb hf
  · by_cases z : b = a
    · exact ⟨o, by rw [z]; exact upd_same⟩
    · rw [upd_ne z]; exact R.bas.there _ _ hb
  · obtain ⟨l, vs, h1, O, h3⟩ := R.own i xs hi
    have ne : l ≠ a := fun z => O.nf (z ▸ fw)
    exact ⟨l, vs, h1, ⟨by rw [upd_ne ne]; exact O.hl, O.fl, fun z => O.nf (ft l z), O.el⟩, h3⟩
theorem Rel.dFree (R : Rel UD K e F ρ w σ H) {p : Addr} (hp : H p = none) : w.2.get p = none := by
  cases c : w.2.get p with
  | none => rfl
  | some c =>
    obtain ⟨o, h⟩ := (R.dcAt c).2.some
    rw [hp] at h; cases h
theorem Rel.dNew (R : Rel UD K e F ρ w σ H) {p : Addr} {c : DC} (hp : H p = none) {o : HO} (d : DcIn w.2.K F (upd H p o) p c) : Rel UD K e F ρ (w.1, w.2.new p c) σ (upd H p o) := by
  obtain ⟨B, fp, nf, ep⟩ := R.bas.mine hp o
  obtain ⟨⟨⟨r1, r3⟩, r2⟩, rt⟩ := B.rep
  have ft : ∀ b, UD.foot (w.1, w.2.new p c) b → UD.foot w b ∨ b = p := fun b hb => by
    rcases hb with hb | ⟨c2, hb⟩ | hb
    · exact .inl (.inl hb)
    · rcases List.mem_cons.mp hb with hb | hb
      · cases hb; exact .inr rfl
      · exact .inl (.inr (.inl ⟨c2, hb⟩))
    · exact .inl (.inr (.inr hb))
  refine ⟨⟨B.fh, ⟨⟨⟨fun b c2 hb => ?_, r3⟩, fun b ks hb => r2 b ks hb⟩, fun T hT => ⟨(rt T hT).1, fun z => ?_⟩⟩, B.f, B.keep, B.there, B.new, fun b hb => ?_⟩, R.slot, fun i xs hi => ?_, R.inj, R.len⟩
  · rcases List.mem_cons.mp hb with hb | hb
    · cases hb; exact ⟨fp, d⟩
    · exact r1 b c2 hb
  · rcases z with ⟨c2, z⟩ | z
    · rcases List.mem_cons.mp z with z | z
      · cases z; exact nf (.inl hT)
      · exact (rt T hT).2 (.inl ⟨c2, z⟩)
    · exact (rt T hT).2 (.inr z)
  · rcases ft b hb with k | rfl
    · exact B.foot b k
    · exact .inr ep
  · obtain ⟨l, vs, h1, O, h3⟩ := R.own i xs hi
    have ne : l ≠ p := ne_of_none O.hl hp
    refine ⟨l, vs, h1, ⟨by rw [upd_ne ne]; exact O.hl, O.fl, fun z => ?_, O.el⟩, h3⟩
    rcases ft l z with k | k
    · exact O.nf k
    · exact ne k
end
end DL

set_option Elab.async false
set_option linter.all false
set_option maxRecDepth 100000
set_option maxHeartbeats 4000000
namespace DL
open PySem L2
open PyProof.Rows (sortedS risingS ltCps_eq)
/-! ### words on our dicts -/
theorem keyOk_of {K : PySem.W.Frag} {F : Hp} {k : Key} {v : V} (h : Din K F (kD k) v) : keyOk k := by
  cases k with
  | inl i => trivial
  | inr s => exact h.2
theorem BorV.key {K : PySem.W.Frag} {F : Hp} {ρ : Rho} {σ : St} {k : Key} {v : V} (h : BorV K F ρ σ (kD k) v) : v = kV k ∧ keyOk k := by
  have d := h.din (fun xs z => by cases k <;> cases z)
  exact ⟨din_k d, keyOk_of d⟩
theorem BorV.ref {K : PySem.W.Frag} {F : Hp} {ρ : Rho} {σ : St} {a : Addr} {v : V} (h : BorV K F ρ σ (.ref a) v) : v = .ref a := h.din (fun _ z => nomatch z)
def DC.isD : DC → Bool
  | .k _ => true
  | .t _ => true
  | _ => false
theorem DcIn.isD {K : PySem.W.Frag} {F H : Hp} {a : Addr} {c : DC} (h : DcIn K F H a c) (hc : DC.isD c = true) : IsD H a := by
  cases c with
  | k kvs => obtain ⟨⟨vs, h, _⟩, _⟩ := h; exact .inl ⟨vs, .inl h⟩
  | t kvs => obtain ⟨⟨vs, h, _⟩, _⟩ := h; exact .inr ⟨vs, .inl h⟩
  | o C fs => cases hc
  | l xs => cases hc
/-! the world's parts, by their own names -/
def vGet (v : dcW.W) (a : Addr) : Option DC := DV.get v a
def vPut (v : dcW.W) (a : Addr) (c : DC) : dcW.W := DV.put v a c
def vNew (v : dcW.W) (a : Addr) (c : DC) : dcW.W := DV.new v a c
def vK (v : dcW.W) : PySem.W.Frag := DV.K v
def wGet (w : UD.W) (a : Addr) : Option DC := vGet w.2 a
def wPut (w : UD.W) (a : Addr) (c : DC) : UD.W := (w.1, vPut w.2 a c)
def wNew (w : UD.W) (a : Addr) (c : DC) : UD.W := (w.1, vNew w.2 a c)
def wK (w : UD.W) : PySem.W.Frag := vK w.2
section
variable {T a : Addr} {v : dcW.W} {c c' : DC}
theorem wGet_mk : wGet (mkW T v) a = vGet v a := rfl
theorem wPut_mk : wPut (mkW T v) a c = mkW T (vPut v a c) := rfl
theorem wNew_mk : wNew (mkW T v) a c = mkW T (vNew v a c) := rfl
theorem wK_mk : wK (mkW T v) = vK v := rfl
theorem vK_new : vK (vNew v a c) = vK v := rfl
theorem vK_put : vK (vPut v a c) = vK v := rfl
theorem vGet_new : vGet (vNew v a c) a = some c := DV.get_new
theorem vGet_put (h : vGet v a = some c) : vGet (vPut v a c') a = some c' := DV.get_put h
end
def v0K (K : PySem.W.Frag) : dcW.W := (⟨K, [], [], []⟩ : DV)
theorem vK_0 {K : PySem.W.Frag} : vK (v0K K) = K := rfl
section
variable {X : Cx} {o i e f ex : Expr} {K : PySem.W.Frag} {td ti tx : TD UD} {pos pos' apos cpos : Pos}
def dNewK : TD UD := fun ρ w Q => ∀ p, wGet w p = none → Q (.ref p) (wNew w p (.k []))
theorem de_newK : DE X UD (.Dict [] [] pos) dNewK := ⟨fun e => pe_dnewK.weak fun σ H Q ⟨F, ρ, w, Q', R, q, k⟩ => fun p hp =>
  k (.ref p) (.ref p) F _ _ (q p (R.dFree hp)) (R.dNew (c := .k []) hp (o := .dK []) ⟨⟨[], upd_same, rfl⟩, fun p h => nomatch h⟩) (Same.refl _) rfl⟩
def dDGet (K : PySem.W.Frag) (td ti : TD UD) : TD UD := fun ρ w Q => td ρ w fun x w1 => ti ρ w1 fun z w2 => ∃ a kvs k u, x = .ref a ∧ z = kD k ∧ wGet w2 a = some (.k kvs) ∧ wK w2 = K ∧ dval kvs k = some u ∧ Q u w2
theorem de_dget (hK : X.K = K) (hu : X.A.units + 64 < cLine) (ho : DB X UD o td) (hi : DB X UD i ti) (hs : NoSl i := by intro _ _; rfl) : DE X UD (.Subscript o i pos) (dDGet K td ti) := by
  subst hK
  exact ⟨fun e => (pe_dget (by omega) (ho.run e) (hi.run e) hs).weak fun σ H Q ⟨F, ρ, w, Q', R, q, k⟩ => ⟨F, ρ, w, _, R, q, fun x v F1 w1 H1 q1 R1 s1 b1 => ⟨F1, ρ, w1, _, R1, q1, fun z u F2 w2 H2 ⟨a, kvs, k0, x0, e1, e2, g, eK, hv, q2⟩ R2 s2 b2 => by
    subst e1 e2
    obtain ⟨eu, _⟩ := b2.key
    obtain ⟨_, ⟨vs, hd, dv⟩, ok⟩ := R2.dcAt g
    obtain ⟨v0, h1, h2⟩ := dv.val.1 x0 hv
    refine ⟨a, v0, b1.ref, ?_, k x0 v0 F2 w2 H2 q2 R2 (s1.trans s2) ((show _ = _ from eK) ▸ h2)⟩
    rw [eu, ← h1]; exact DGet.k hd⟩⟩⟩
def dDGet2 (K : PySem.W.Frag) (td ti tx : TD UD) : TD UD := fun ρ w Q => td ρ w fun x w1 => ∃ a c, x = .ref a ∧ wGet w1 a = some c ∧ DC.isD c = true ∧ ti ρ w1 fun z w2 => tx ρ w2 fun y w3 => ∃ kvs k, z = kD k ∧ wGet w3 a = some (.k kvs) ∧ wK w3 = K ∧ Q ((dval kvs k).getD y) w3
theorem de_dget2 (hK : X.K = K) (hu : X.A.units + 64 < cLine) (ho : DB X UD o td) (hi : DB X UD e ti) (hf : DE X UD f tx) (m : M2 X o "get" apos e f cpos) : DE X UD (.Call (.Attribute o "get" apos) [e, f] [] cpos) (dDGet2 K td ti tx) := by
  subst hK
  exact ⟨fun e => (pe_dget2 (by omega) (ho.run e) (hi.run e) (hf.run e) m).weak fun σ H Q ⟨F, ρ, w, Q', R, q, k⟩ => ⟨F, ρ, w, _, R, q, fun x v F1 w1 H1 ⟨a, c, e1, g1, gc, q1⟩ R1 s1 b1 => by
    subst e1
    refine ⟨a, b1.ref, (R1.dcAt g1).2.isD gc, F1, ρ, w1, _, R1, q1, fun z u F2 w2 H2 q2 R2 s2 b2 => ⟨F2, ρ, w2, _, R2, q2, fun y v3 F3 w3 H3 ⟨kvs, k0, e2, g, eK, q3⟩ R3 s3 d3 => ?_⟩⟩
    subst e2
    obtain ⟨eu, _⟩ := b2.key
    obtain ⟨_, ⟨vs, hd, dv⟩, ok⟩ := R3.dcAt g
    refine ⟨valV vs k0, by rw [eu]; exact DGet.k hd, ?_⟩
    cases hv : dval kvs k0 with
    | none =>
      rw [dv.val.2 hv]
      rw [hv] at q3
      exact k y v3 F3 w3 H3 q3 R3 (s1.trans (s2.trans s3)) d3
    | some x0 =>
      obtain ⟨v0, h1, h2⟩ := dv.val.1 x0 hv
      rw [h1]
      rw [hv] at q3
      exact k x0 v0 F3 w3 H3 q3 R3 (s1.trans (s2.trans s3)) ((show _ = _ from eK) ▸ h2)⟩⟩
def dDIn (n : Bool) (ti td : TD UD) : TD UD := fun ρ w Q => ti ρ w fun z w1 => td ρ w1 fun x w2 => ∃ a kvs k, x = .ref a ∧ z = kD k ∧ wGet w2 a = some (.k kvs) ∧ Q (.bl (n ^^ (dval kvs k).isSome)) w2
theorem up_din {K : PySem.W.Frag} {n : Bool} {e : Ent UD} {σ : St} {H : Hp} {Q : VK} (h : up UD K e (dDIn n ti td) σ H Q) :
    upB UD K e ti σ H fun y H1 => upB UD K e td σ H1 fun x H2 => ∃ a o, x = .ref a ∧ DGet H2 a y o ∧ Q (.bl (n ^^ o.isSome)) H2 := by
  obtain ⟨F, ρ, w, Q', R, q, k⟩ := h
  refine ⟨F, ρ, w, _, R, q, fun z u F1 w1 H1 q1 R1 s1 b1 => ⟨F1, ρ, w1, _, R1, q1, fun x v F2 w2 H2 ⟨a, kvs, k0, e1, e2, g, q2⟩ R2 s2 b2 => ?_⟩⟩
  subst e1 e2
  obtain ⟨eu, _⟩ := b1.key
  obtain ⟨_, ⟨vs, hd, dv⟩, ok⟩ := R2.dcAt g
  have e : (valV vs k0).isSome = (dval kvs k0).isSome := by
    cases hv : dval kvs k0 with
    | none => rw [dv.val.2 hv]; rfl
    | some x0 => obtain ⟨v0, h1, _⟩ := dv.val.1 x0 hv; rw [h1]; rfl
  refine ⟨a, valV vs k0, b2.ref, by rw [eu]; exact DGet.k hd, ?_⟩
  rw [e]
  exact k _ _ F2 w2 H2 q2 R2 (s1.trans s2) rfl
theorem pe_din1 (hu : X.A.units + 64 < cLine) (hi : DB X UD i ti) (ho : DB X UD o td) (e : Ent UD) : PC X .In i o (up UD X.K e (dDIn false ti td)) := ⟨fun pins s σ H Q I q => (pc_din (by omega) (hi.run e) (ho.run e)).run pins s σ H Q I (by
  obtain h := up_din q
  simp only [Bool.false_xor] at h
  exact h)⟩
theorem pe_dnotin1 (hu : X.A.units + 64 < cLine) (hi : DB X UD i ti) (ho : DB X UD o td) (e : Ent UD) : PC X .NotIn i o (up UD X.K e (dDIn true ti td)) := ⟨fun pins s σ H Q I q => (pc_dnotin (by omega) (hi.run e) (ho.run e)).run pins s σ H Q I (by
  obtain h := up_din q
  simp only [Bool.true_xor] at h
  exact h)⟩
theorem de_din (hu : X.A.units + 64 < cLine) (hi : DB X UD i ti) (ho : DB X UD o td) (hm : behindInMarks .In o = false := by rfl) : DE X UD (.Compare i [.In] [o] pos) (dDIn false ti td) := ⟨fun e => pe_cmp (pe_din1 hu hi ho e) hm⟩
theorem dt_pc {op : CmpOp} {t : TD UD} (h : ∀ e, PC X op i o (up UD X.K e t)) (hm : behindInMarks op o = false := by rfl) : DT X UD (.Compare i [op] [o] pos) (dTst t) := ⟨fun e => (pt_cmp (h e) hm).weak fun σ H Q ⟨F, ρ, w, Q', R, q, k⟩ => ⟨F, ρ, w, _, R, q, fun x v F' w' H' q' R' s' d' => by
  cases x with
  | bl b => exact ⟨b, d', k b F' w' H' q' R' s'⟩
  | _ => exact q'.elim⟩⟩
theorem dt_din (hu : X.A.units + 64 < cLine) (hi : DB X UD i ti) (ho : DB X UD o td) (hm : behindInMarks .In o = false := by rfl) : DT X UD (.Compare i [.In] [o] pos) (dTst (dDIn false ti td)) := dt_pc (pe_din1 hu hi ho) hm
theorem dt_dnotin (hu : X.A.units + 64 < cLine) (hi : DB X UD i ti) (ho : DB X UD o td) (hm : behindInMarks .NotIn o = false := by rfl) : DT X UD (.Compare i [.NotIn] [o] pos) (dTst (dDIn true ti td)) := dt_pc (pe_dnotin1 hu hi ho) hm
def dSetd (K : PySem.W.Frag) (td ti tx : TD UD) : TD UD := fun ρ w Q => td ρ w fun x w1 => ∃ a c, x = .ref a ∧ wGet w1 a = some c ∧ DC.isD c = true ∧ ti ρ w1 fun z w2 => tx ρ w2 fun y w3 => ∃ kvs k, z = kD k ∧ wGet w3 a = some (.k kvs) ∧ wK w3 = K ∧ kvs.length < sizeLine ∧
  (∀ u, dval kvs k = some u → Q u w3) ∧ (dval kvs k = none → Q y (wPut w3 a (.k (dput kvs k y))))
theorem de_setd (hK : X.K = K) (ho : DB X UD o td) (hi : DB X UD e ti) (hf : DE X UD f tx) (m : M2 X o "setdefault" apos e f cpos) : DE X UD (.Call (.Attribute o "setdefault" apos) [e, f] [] cpos) (dSetd K td ti tx) := by
  subst hK
  exact ⟨fun e => (pe_dsetd (ho.run e) (hi.run e) (hf.run e) m).weak fun σ H Q ⟨F, ρ, w, Q', R, q, k⟩ => ⟨F, ρ, w, _, R, q, fun x v F1 w1 H1 ⟨a, c, e1, g1, gc, q1⟩ R1 s1 b1 => by
    subst e1
    refine ⟨a, b1.ref, (R1.dcAt g1).2.isD gc, F1, ρ, w1, _, R1, q1, fun z u F2 w2 H2 q2 R2 s2 b2 => ⟨F2, ρ, w2, _, R2, q2, fun y v3 F3 w3 H3 ⟨kvs, k0, e2, g, eK, hl, q3, q4⟩ R3 s3 d3 => ?_⟩⟩
    subst e2
    obtain ⟨eu, ok0⟩ := b2.key
    obtain ⟨_, ⟨vs, hd, dv⟩, ok⟩ := R3.dcAt g
    refine ⟨vs, k0, hd, eu, by rw [dv.length]; exact hl, fun v0 hv => ?_, fun hv => ?_⟩
    · cases hq : dval kvs k0 with
      | none => rw [dv.val.2 hq] at hv; cases hv
      | some x0 =>
        obtain ⟨v1, h1, h2⟩ := dv.val.1 x0 hq
        rw [h1] at hv; cases hv
        exact k x0 v0 F3 w3 H3 (q3 x0 hq) R3 (s1.trans (s2.trans s3)) ((show _ = _ from eK) ▸ h2)
    · have hq : dval kvs k0 = none := by
        cases hq : dval kvs k0 with
        | none => rfl
        | some x0 => obtain ⟨v1, h1, _⟩ := dv.val.1 x0 hq; rw [h1] at hv; cases hv
      have R4 := R3.dWrite g (c' := .k (dput kvs k0 y)) (o := .dK (putK vs k0 v3)) ⟨⟨_, upd_same, VD.put (by rw [show w3.2.K = X.K from eK]; exact d3) dv⟩, fun p hp => by
        rcases dput_keys hp with h | ⟨q, hq, h⟩
        · rw [h]; exact ok0
        · rw [← h]; exact ok q hq⟩
      exact k y v3 F3 _ _ (q4 hq) R4 (s1.trans (s2.trans s3)) d3⟩⟩
theorem rising_up : ∀ (l : List Str) (p : Str), risingS p l = true → l.Nodup → p ∉ l → (p :: l).Pairwise fun a b => ltS a b = true
  | [], p, _, _, _ => by simp
  | x :: r, p, h, nd, hp => by
    obtain ⟨h1, h2⟩ := Bool.and_eq_true_iff.mp (show (!PySem.Spec.ltCps x.cps.toList p.cps.toList && risingS x r) = true from h)
    obtain ⟨n1, n2⟩ := List.nodup_cons.mp nd
    have ih := rising_up r x h2 n2 n1
    rw [ltCps_eq] at h1
    have h1 : ltS x p = false := by
      cases q : ltS x p with
      | false => rfl
      | true => rw [show decide (x.cps.toList < p.cps.toList) = true from q] at h1; cases h1
    have px : ltS p x = true := by
      cases q : ltS p x with
      | true => rfl
      | false => exact absurd (ltS_tri q h1) fun e => hp (e ▸ List.mem_cons_self ..)
    refine List.pairwise_cons.mpr ⟨fun y hy => ?_, ih⟩
    rcases List.mem_cons.mp hy with rfl | hy
    · exact px
    · exact ltS_trans px ((List.pairwise_cons.mp ih).1 y hy)
theorem sortedS_txts {ys ks : List Str} (hp : ys.Perm ks) (hs : sortedS ys = true) (nd : ks.Nodup) : ys = txts ks := by
  have nd' := hp.nodup_iff.mpr nd
  refine strict_uniq ltS_irr (fun _ _ _ => ltS_trans) ?_ (txts_up ks) fun s => by rw [hp.mem_iff, txts_mem]
  cases ys with
  | nil => exact List.Pairwise.nil
  | cons x r =>
    obtain ⟨n1, n2⟩ := List.nodup_cons.mp nd'
    exact rising_up r x hs n2 n1
def dSortK (td : TD UD) : TDL UD := fun ρ w Q => td ρ w fun x w1 => ∃ a kvs ks, x = .ref a ∧ wGet w1 a = some (.k kvs) ∧ kvs.map (·.1) = ks.map Sum.inr ∧ ks.length < 64 ∧ ks.Nodup ∧ Q ((txts ks).map Dt.str) w1
theorem df_sortK {p1 p4 : Pos} (hc : X.calm = true) (hg : Gl X "sorted") (hm : X.mg "sorted" = none) (ho : DB X UD o td) (hs : starEach [o] X.env = [(false, eval o X.env)] := by rfl) : DF X UD (.Call (.Name "sorted" p1) [o] [] p4) (dSortK td) :=
  ⟨fun e => (pe_callB (call_sortedD hc) hg hm (by decide +kernel) (pa_cons (ho.run e) pa_nil hs) (by decide) (by decide) hs (by rfl)).weak fun σ H Q ⟨F, ρ, w, Q', R, q, k⟩ => ⟨F, ρ, w, _, R, q, fun x v F1 w1 H1 ⟨a, kvs, ks, e1, g, hk, h64, nd, q1⟩ R1 s1 b1 => by
    subst e1
    obtain ⟨_, ⟨vs, hd, dv⟩, ok⟩ := R1.dcAt g
    have ev := b1.ref
    subst ev
    refine ⟨a, vs, ks, rfl, .inl hd, dv.keys.trans hk, h64, fun ys p hp hs hn => ?_⟩
    obtain ⟨R2, f2⟩ := R1.mine hn (ys.map V.str)
    have ey := sortedS_txts hp hs nd
    refine k _ p _ F1 w1 _ q1 R2 s1 f2 (ey ▸ DinL.of_strs ys fun s hs => ?_)
    have hm : (Sum.inr s : Key) ∈ kvs.map (·.1) := by rw [hk]; exact List.mem_map.mpr ⟨s, hp.mem_iff.mp hs, rfl⟩
    obtain ⟨p0, h1, h2⟩ := List.mem_map.mp hm
    have := ok p0 h1
    rw [h2] at this
    exact this⟩⟩
end
section
variable {κ : Type} [DecidableEq κ]
theorem dhas_val {ps : List (κ × Dt)} {k : κ} : dhas ps k = (dval ps k).isSome := by
  induction ps with
  | nil => rfl
  | cons p ps ih =>
    unfold dhas dval
    rw [List.any_cons]
    by_cases e : p.1 = k
    · rw [if_pos e, decide_eq_true e]; rfl
    · rw [if_neg e, decide_eq_false e, Bool.false_or]; exact ih
theorem dput_new {ps : List (κ × Dt)} {k : κ} {x : Dt} (h : dval ps k = none) : dput ps k x = ps ++ [(k, x)] := by
  unfold dput
  rw [dhas_val, h]; rfl
theorem dval_snoc {k j : κ} {x : Dt} : ∀ {ps : List (κ × Dt)}, dval ps k = none → dval (ps ++ [(k, x)]) j = if j = k then some x else dval ps j
  | [], _ => by
    show (if k = j then some x else none) = if j = k then some x else none
    by_cases e : k = j
    · rw [if_pos e, if_pos e.symm]
    · rw [if_neg e, if_neg fun z => e z.symm]
  | p :: ps, h => by
    unfold dval at h
    by_cases e : p.1 = k
    · rw [if_pos e] at h; cases h
    · rw [if_neg e] at h
      have ih := dval_snoc (j := j) (x := x) h
      show (if p.1 = j then some p.2 else dval (ps ++ [(k, x)]) j) = if j = k then some x else if p.1 = j then some p.2 else dval ps j
      by_cases c : p.1 = j
      · rw [if_pos c, if_pos c, if_neg fun z => e (c.trans z)]
      · rw [if_neg c, if_neg c]; exact ih
theorem dval_some {k : κ} {x : Dt} : ∀ {ps : List (κ × Dt)}, dval ps k = some x → (k, x) ∈ ps
  | [], h => by cases h
  | p :: ps, h => by
    unfold dval at h
    by_cases e : p.1 = k
    · rw [if_pos e] at h; cases h; rw [← e]; exact List.mem_cons_self ..
    · rw [if_neg e] at h; exact List.mem_cons_of_mem _ (dval_some h)
theorem dval_in {k : κ} : ∀ {ps : List (κ × Dt)}, (dval ps k).isSome = true ↔ k ∈ ps.map (·.1)
  | [] => by simp [dval]
  | p :: ps => by
    unfold dval
    by_cases e : p.1 = k
    · rw [if_pos e]; simp [e]
    · rw [if_neg e, dval_in, List.map_cons, List.mem_cons]
      exact ⟨.inr, fun h => h.elim (fun z => absurd z.symm e) id⟩
end
theorem nodup_len {α : Type} [DecidableEq α] : ∀ (es L : List α), es.Nodup → (∀ e ∈ es, e ∈ L) → es.length ≤ L.length
  | [], _, _, _ => Nat.zero_le _
  | e :: es, L, hn, h => by
    obtain ⟨h1, h2⟩ := List.nodup_cons.mp hn
    have he := h e (List.mem_cons_self ..)
    have := nodup_len es (L.erase e) h2 fun x hx => (List.mem_erase_of_ne (fun z => h1 (by rw [← z]; exact hx))).mpr (h x (List.mem_cons_of_mem _ hx))
    rw [List.length_erase_of_mem he] at this
    have : 0 < L.length := List.length_pos_of_mem he
    simp only [List.length_cons]; omega
section
variable {K : PySem.W.Frag} {td ti tx : TD UD} {ρ : Rho} {w : UD.W} {Q : Dt → UD.W → Prop} {QL : List Dt → UD.W → Prop}
theorem ev_newK : dNewK ρ w Q = ∀ p, wGet w p = none → Q (.ref p) (wNew w p (.k [])) := rfl
theorem ev_dget : dDGet K td ti ρ w Q = td ρ w fun x w1 => ti ρ w1 fun z w2 => ∃ a kvs k u, x = .ref a ∧ z = kD k ∧ wGet w2 a = some (.k kvs) ∧ wK w2 = K ∧ dval kvs k = some u ∧ Q u w2 := rfl
theorem ev_dget2 : dDGet2 K td ti tx ρ w Q = td ρ w fun x w1 => ∃ a c, x = .ref a ∧ wGet w1 a = some c ∧ DC.isD c = true ∧ ti ρ w1 fun z w2 => tx ρ w2 fun y w3 => ∃ kvs k, z = kD k ∧ wGet w3 a = some (.k kvs) ∧ wK w3 = K ∧ Q ((dval kvs k).getD y) w3 := rfl
theorem ev_din {n : Bool} : dDIn n ti td ρ w Q = ti ρ w fun z w1 => td ρ w1 fun x w2 => ∃ a kvs k, x = .ref a ∧ z = kD k ∧ wGet w2 a = some (.k kvs) ∧ Q (.bl (n ^^ (dval kvs k).isSome)) w2 := rfl
theorem ev_setd : dSetd K td ti tx ρ w Q = td ρ w fun x w1 => ∃ a c, x = .ref a ∧ wGet w1 a = some c ∧ DC.isD c = true ∧ ti ρ w1 fun z w2 => tx ρ w2 fun y w3 => ∃ kvs k, z = kD k ∧ wGet w3 a = some (.k kvs) ∧ wK w3 = K ∧ kvs.length < sizeLine ∧
  (∀ u, dval kvs k = some u → Q u w3) ∧ (dval kvs k = none → Q y (wPut w3 a (.k (dput kvs k y)))) := rfl
theorem ev_sortK : dSortK td ρ w QL = td ρ w fun x w1 => ∃ a kvs ks, x = .ref a ∧ wGet w1 a = some (.k kvs) ∧ kvs.map (·.1) = ks.map Sum.inr ∧ ks.length < 64 ∧ ks.Nodup ∧ QL ((txts ks).map Dt.str) w1 := rfl
end
theorem dc_rep0 {K : PySem.W.Frag} (F H : Hp) : dcW.rep F H (v0K K) := ⟨⟨(fun _ _ h => by cases h), (fun _ h => by cases h)⟩, (fun _ _ h => by cases h)⟩
theorem dc_foot0 {K : PySem.W.Frag} (a : Addr) : ¬ dcW.foot (v0K K) a := fun h => by
  rcases h with ⟨_, h⟩ | ⟨_, h⟩ <;> cases h
end DL

set_option Elab.async false
set_option linter.all false
set_option maxRecDepth 100000
set_option maxHeartbeats 4000000
namespace DL
open PySem L2
/-! ### sorted(d), the keys pairs of a text and a number -/
def ksD (ks : List Key) : Dt := .tup (ks.map kD)
def ksLe (x y : List Key) : Bool := leD (ksD x) (ksD y)
def spotK (s : Str) (i : Int) : List Key := [.inr s, .inl i]
theorem din_ks {K : PySem.W.Frag} {H : Hp} {b : Addr} {ks : List Key} (h : H b = some (.tup (ks.map kV))) (ok : ∀ k ∈ ks, keyOk k) : Din K H (ksD ks) (.ref b) :=
  ⟨b, ks.map kV, rfl, .inl (.inl h), dinL_of_k ks fun k hk => by
    have := ok k hk
    cases k with
    | inl i => exact rfl
    | inr s => exact ⟨rfl, this⟩⟩
theorem kd_np (k : Key) : (kD k).np = true := by cases k <;> rfl
theorem ksD_np (ks : List Key) : (ksD ks).np = true := npL_iff.mpr fun x hx => by obtain ⟨k, _, rfl⟩ := List.mem_map.mp hx; exact kd_np k
theorem ksD_dep (ks : List Key) : (ksD ks).dep ≤ 1 := dep_tup.mpr fun x hx => by
  obtain ⟨k, _, rfl⟩ := List.mem_map.mp hx
  cases k <;> exact Nat.zero_le _
section
open PySem.Spec PyProof.Rows
variable {X : Cx}
def rSortDT (X : Cx) : List V → Hp → VK → Prop := fun vs H Q => ∃ (a : Addr) (kvs : List (List Key × V)), vs = [.ref a] ∧ H a = some (.dT kvs) ∧ (∀ p ∈ kvs, ∃ s i, p.1 = spotK s i ∧ PyData.strOk s = true) ∧
  ∀ (ps : List (List Key × Addr)) (p : Addr), ps.map (·.1) = (kvs.map (·.1)).mergeSort ksLe → (∀ q ∈ ps, H q.2 = some (.tup (q.1.map kV))) → H p = none → Q (.ref p) (upd H p (.lst (ps.map fun q => V.ref q.2)))
theorem paired_mem {α β : Type} {F : α → β → Prop} : ∀ {l : List α} {m : List β}, Paired F l m → ∀ b ∈ m, ∃ a ∈ l, F a b
  | _, _, .nil, b, h => by cases h
  | _, _, .cons r t, b, h => by
    rcases List.mem_cons.mp h with rfl | h
    · exact ⟨_, List.mem_cons_self .., r⟩
    · obtain ⟨a, h1, h2⟩ := paired_mem t b h
      exact ⟨a, List.mem_cons_of_mem _ h1, h2⟩
theorem paired_fst {F : List Key × V → List Key × Addr × Value → Prop} (hF : ∀ p q, F p q → p.1 = q.1) : ∀ {l : List (List Key × V)} {m : List (List Key × Addr × Value)}, Paired F l m → m.map (·.1) = l.map (·.1)
  | _, _, .nil => rfl
  | _, _, .cons r t => by rw [List.map_cons, List.map_cons, paired_fst hF t, hF _ _ r]
theorem each_refs : ∀ (xs : List (List Key × Addr × Value)), PySem.W.EachIs (fun u (q : List Key × Addr × Value) => u = Value.ref q.2.1) (xs.map fun q => Value.ref q.2.1) xs
  | [] => .nil
  | x :: xs => .cons rfl (each_refs xs)
theorem refs_each : ∀ {us : List Value} {xs : List (List Key × Addr × Value)}, PySem.W.EachIs (fun u (q : List Key × Addr × Value) => u = Value.ref q.2.1) us xs → Vals ((xs.map fun q => (q.1, q.2.1)).map fun q => V.ref q.2) us
  | _, _, .nil => .nil
  | _, _, .cons h t => by cases h; exact .cons rfl (refs_each t)
theorem cr_sortedDT (hc : X.calm = true) (hu : X.A.units + 64 < cLine) : CallR X (.builtin "sorted") (rSortDT X) := by
  intro pins s σ H vs us Q I r h
  obtain ⟨a, kvs, rfl, ha, sh, q⟩ := h
  obtain ⟨z, lo, xs, rel, o, es, ep, ho, hx, hd, hes, nd⟩ := (show ObjOk X.prog X.w H s.heap a (.dT kvs) from I.hok a _ ha)
  rw [Vals.ref1 r]
  have kf : xs.map (·.1) = kvs.map (·.1) := paired_fst (fun p q h => h.1) rel
  have xl : xs.length = kvs.length := by have := congrArg List.length kf; rw [List.length_map, List.length_map] at this; exact this
  have el : es.size = xs.length := by rw [← Array.length_toList, hes, List.length_map]
  have shx : ∀ x ∈ xs, ∃ s i, x.1 = spotK s i ∧ PyData.strOk s = true ∧ H x.2.1 = some (.tup (x.1.map kV)) := fun x hx => by
    obtain ⟨p, hp, e1, e2, _⟩ := paired_mem rel x hx
    obtain ⟨s, i, e3, ok⟩ := sh p hp
    exact ⟨s, i, by rw [← e1]; exact e3, ok, by rw [← e1]; exact e2⟩
  have small : es.size ≤ sizeLine := by rw [el, xl]; exact z
  refine Calls.call_function_entry kind_sorted plain_sorted entry_sorted (args_sorted1 _) ?_
  unfold Builtin.«sorted»
  refine wpAny_bind (m := checkCount "sorted" 1 1 _) (wpAny_pure ?_)
  refine wpAny_bind (PySem.W.kdu_collect (A := X.A.in1) (KdlSrc.rawDict lo) (I.ok.hd hc) ⟨o, ho, hx, hd⟩ small fun h' tk acc hk hacc => ?_)
  have I1 : Inv X pins σ H { s with heap := h', toks := tk } := I.kept hk
  have ea : acc.toList = xs.map fun q => Value.ref q.2.1 := by
    apply List.ext_getElem?
    intro j
    rw [List.getElem?_map]
    by_cases hj : j < es.size
    · have hja : j < acc.toList.length := by rw [Array.length_toList, hacc.1]; exact hj
      obtain ⟨hj2, e⟩ := hacc.2 j acc.toList[j] (by rw [← Array.getElem?_toList]; exact List.getElem?_eq_getElem hja)
      rw [List.getElem?_eq_getElem hja, e]
      have hjx : j < xs.length := by omega
      rw [List.getElem?_eq_getElem hjx]
      have : es.toList[j]? = some (entryOfKey (tupleKind (mixKind X.prog X.w)) xs[j]) := by rw [hes, List.getElem?_map, List.getElem?_eq_getElem hjx]; rfl
      have e3 : es[j] = entryOfKey (tupleKind (mixKind X.prog X.w)) xs[j] := by
        rw [Array.getElem?_toList, Array.getElem?_eq_getElem hj2] at this
        exact Option.some.inj this
      rw [e3]; rfl
    · rw [List.getElem?_eq_none (by rw [Array.length_toList, hacc.1]; omega), List.getElem?_eq_none (by omega)]; rfl
  rw [ea]
  have small' : (xs.map fun q => Value.ref q.2.1).length ≤ sizeLine := by rw [List.length_map, ← el]; exact small
  refine wpAny_bind (wpAny_newList ?_ small')
  have hoL : (h'.push (seqObj "list" (xs.map fun q => Value.ref q.2.1).toArray 0)).get? h'.objs.size = some (seqObj "list" (xs.map fun q => Value.ref q.2.1).toArray 0) := Heap.get?_push_size _ rfl
  show wpAny _ _ _ _ _ { s with heap := h'.push (seqObj "list" (xs.map fun q => Value.ref q.2.1).toArray 0), toks := tk }
  have ee := each_refs xs
  have hal : ∀ x ∈ xs, ∀ y ∈ xs, alk (ksD x.1) (ksD y.1) = true := fun x hx y hy => by
    obtain ⟨s1, i1, e1, _⟩ := shx x hx
    obtain ⟨s2, i2, e2, _⟩ := shx y hy
    rw [e1, e2]; rfl
  refine wpAny_bind (wpAny_holding (PySem.W.list_sort_data (s := { s with heap := h'.push (seqObj "list" (xs.map fun q => Value.ref q.2.1).toArray 0), toks := tk }) (enc := fun q : List Key × Addr × Value => (ksD q.1).py) hoL ee (EachIs.imp_mem ee fun u x hx r => by
      obtain ⟨s0, i0, e0, ok0, hb⟩ := shx x hx
      have okk : ∀ k ∈ x.1, keyOk k := fun k hk => by
        rw [e0] at hk
        simp only [spotK, List.mem_cons, List.not_mem_nil, or_false] at hk
        rcases hk with rfl | rfl
        · exact ok0
        · trivial
      have dd := (Din.dp _ _ (din_ks (K := X.K) hb okk) (ksD_np x.1)).1
      subst r
      obtain ⟨as, ra⟩ := Dp.reads I1 _ _ (.ref x.2.1) dd rfl
      exact ⟨as, PySem.W.reads_keeps (fun b o e => Heap.get?_push_of_some _ e) ra, fun hm => by
        obtain ⟨o2, e2⟩ := PyProof.On.reads_mem_get ra _ hm
        exact absurd (Heap.lt_size e2) (Nat.lt_irrefl _)⟩) ?_ ?_ (by simpa using small') ?_ fun out hlen he => ?_))
  · intro d hd d' hd'
    obtain ⟨x, hx, rfl⟩ := List.mem_map.mp hd
    obtain ⟨y, hy, rfl⟩ := List.mem_map.mp hd'
    show PySem.W.alike (ksD x.1).py (ksD y.1).py = true
    rw [alk_py]; exact hal x hx y hy
  · refine .inl fun d hd => ?_
    obtain ⟨x, hx, rfl⟩ := List.mem_map.mp hd
    obtain ⟨s1, i1, e1, _⟩ := shx x hx
    show ∃ _ _, (ksD x.1).py = _
    rw [e1]
    exact ⟨_, _, rfl⟩
  · intro x hx
    have h2 := dep_py (ksD x.1) (ksD_np x.1)
    have h3 := ksD_dep x.1
    show X.A.in1.units + 1 + (ksD x.1).py.depth < cLine
    have h1 : X.A.in1.units = X.A.units + 1 := rfl
    omega
  · obtain ⟨c, hc2⟩ := sortedHeap_at (vs := xs.map fun q => Value.ref q.2.1) (out := out.toArray) hoL
    have es' : xs.mergeSort (PySem.W.dataLe false fun q : List Key × Addr × Value => (ksD q.1).py) = xs.mergeSort fun x y => ksLe x.1 y.1 := by
      have := List.map_mergeSort (r := PySem.W.dataLe false fun q : List Key × Addr × Value => (ksD q.1).py) (s := fun x y : List Key × Addr × Value => ksLe x.1 y.1) (f := id) (l := xs) fun p hp q hq => ?_
      · simpa using this
      · show (!PySem.W.dataLt (ksD q.1).py (ksD p.1).py) = !ltD (ksD q.1) (ksD p.1)
        rw [ltD_py _ _ (hal q hq p hp)]
    rw [es'] at he
    have hn : H h'.objs.size = none := I1.hok.fresh (Nat.le_refl _)
    have hv := refs_each he
    have ln : (((xs.mergeSort fun x y => ksLe x.1 y.1).map fun q => (q.1, q.2.1)).map fun q => V.ref q.2).length ≤ sizeLine := by
      rw [List.length_map, List.length_map, List.length_mergeSort, ← el]; exact small
    have hk2 : ∀ b u, h'.get? b = some u → (sortedHeap (h'.push (seqObj "list" (xs.map fun q => Value.ref q.2.1).toArray 0)) h'.objs.size (xs.map fun q => Value.ref q.2.1) out.toArray).get? b = some u := fun b u e => by
      have hlt := Heap.lt_size e
      rw [sortedHeap_old (Nat.ne_of_lt hlt) (by rw [size_push']; exact Nat.lt_succ_of_lt hlt)]
      exact Heap.get?_push_of_some _ e
    refine wpAny_pure ⟨_, rfl, .ref h'.objs.size, upd H h'.objs.size (.lst (((xs.mergeSort fun x y => ksLe x.1 y.1).map fun q => (q.1, q.2.1)).map fun q => V.ref q.2)), I1.laid (t' := tk) hk2 (Nat.le_refl _) ⟨ln, out, c, hv, hc2⟩, rfl, q _ _ ?_ (fun p hp => ?_) hn⟩
    · rw [List.map_map, ← kf]
      exact List.map_mergeSort fun _ _ _ _ => rfl
    · obtain ⟨x, hx, rfl⟩ := List.mem_map.mp hp
      obtain ⟨_, _, _, _, hb⟩ := shx x (List.mem_mergeSort.mp hx)
      exact hb
end
end DL

set_option Elab.async false
set_option linter.all false
set_option maxRecDepth 100000
set_option maxHeartbeats 4000000
namespace DL
open PySem L2
/-! ### dicts by pairs -/
def vTs (v : dcW.W) (b : Addr) (ks : List Key) : dcW.W := (⟨DV.K v, DV.ds v, (b, .k ks) :: DV.ts v, DV.tb v⟩ : DV)
def wTs (w : UD.W) (b : Addr) (ks : List Key) : UD.W := (w.1, vTs w.2 b ks)
def vHas (v : dcW.W) (b : Addr) (ks : List Key) : Prop := (b, TK.k ks) ∈ DV.ts v
def wHas (w : UD.W) (b : Addr) (ks : List Key) : Prop := vHas w.2 b ks
section
variable {T a b : Addr} {v : dcW.W} {c : DC} {ks js : List Key}
theorem wTs_mk : wTs (mkW T v) b ks = mkW T (vTs v b ks) := rfl
theorem wHas_mk : wHas (mkW T v) b ks = vHas v b ks := rfl
theorem vHas_ts : vHas (vTs v b ks) b ks := List.mem_cons_self ..
theorem vHas_put (h : vHas v b ks) : vHas (vPut v a c) b ks := h
theorem vK_ts : vK (vTs v b ks) = vK v := rfl
theorem vGet_ts : vGet (vTs v b ks) a = vGet v a := rfl
end
theorem Rel.dTs {K : PySem.W.Frag} {e : Ent UD} {F : Hp} {ρ : Rho} {w : UD.W} {σ : St} {H : Hp} (R : Rel UD K e F ρ w σ H) {b : Addr} {ks : List Key} (h : F b = some (.tup (ks.map kV))) (ok : ∀ k ∈ ks, keyOk k) : Rel UD K e F ρ (wTs w b ks) σ H := by
  obtain ⟨⟨r1, r2⟩, rt⟩ := R.bas.rep
  refine ⟨⟨R.bas.fh, ⟨⟨r1, fun c js hc => ?_⟩, rt⟩, R.bas.f, R.bas.keep, R.bas.there, R.bas.new, R.bas.foot⟩, R.slot, fun i xs hi => by
    obtain ⟨l, vs, h1, O, h3⟩ := R.own i xs hi
    exact ⟨l, vs, h1, ⟨O.hl, O.fl, O.nf, O.el⟩, h3⟩, R.inj, R.len⟩
  rcases List.mem_cons.mp hc with hc | hc
  · cases hc; exact ⟨h, ok⟩
  · exact r2 c js hc
theorem Rel.hasTs {K : PySem.W.Frag} {e : Ent UD} {F : Hp} {ρ : Rho} {w : UD.W} {σ : St} {H : Hp} (R : Rel UD K e F ρ w σ H) {b : Addr} {ks : List Key} (h : wHas w b ks) : F b = some (.tup (ks.map kV)) ∧ ∀ k ∈ ks, keyOk k := R.bas.rep.1.2 b (.k ks) h
section
variable {X : Cx} {o i a b ex : Expr} {K : PySem.W.Frag} {ta tb td ti tx : TD UD} {pos pos' : Pos}
def dNewT : TD UD := fun ρ w Q => ∀ p, wGet w p = none → Q (.ref p) (wNew w p (.t []))
theorem de_newT : DE X UD (.Dict [] [] pos) dNewT := ⟨fun e => pe_dnewT.weak fun σ H Q ⟨F, ρ, w, Q', R, q, k⟩ => fun p hp =>
  k (.ref p) (.ref p) F _ _ (q p (R.dFree hp)) (R.dNew (c := .t []) hp (o := .dT []) ⟨⟨[], upd_same, rfl⟩, fun p h => nomatch h⟩) (Same.refl _) rfl⟩
/-- a pair of keys, by its place -/
def dTupK (ta tb : TD UD) : TD UD := fun ρ w Q => ta ρ w fun x w1 => tb ρ w1 fun y w2 => ∃ j k, x = kD j ∧ y = kD k ∧ ∀ p, Q (.ref p) (wTs w2 p [j, k])
theorem de_tupK {x1} (ha : DE X UD a ta) (hb : DE X UD b tb) (hs : starEach [a, b] X.env = (false, eval a X.env) :: starEach [b] X.env := by rfl) (hs2 : starEach [b] X.env = (false, eval b X.env) :: starEach [] X.env := by rfl) : DE X UD (.Tuple [a, b] x1 pos) (dTupK ta tb) :=
  ⟨fun e => (pe_tup (pa_cons (ha.run e) (pa_cons (hb.run e) pa_nil hs2) hs)).weak fun σ H Q ⟨F, ρ, w, Q', R, q, k⟩ => ⟨F, ρ, w, _, R, q, fun x v F1 w1 H1 q1 R1 s1 d1 => ⟨F1, ρ, w1, _, R1, q1, fun y u F2 w2 H2 ⟨j, l, e1, e2, q2⟩ R2 s2 d2 => by
    subst e1 e2
    have d1' := Din.mono s2 _ _ d1
    have e1 := din_k d1'
    have e2 := din_k d2
    refine ⟨by show 2 ≤ sizeLine; decide, fun p hp => ?_⟩
    obtain ⟨R3, s3⟩ := R2.laid hp (.tup [v, u])
    have R4 := R3.dTs (b := p) (ks := [j, l]) (by rw [upd_same, e1, e2]; rfl) (fun k hk => by
      simp only [List.mem_cons, List.not_mem_nil, or_false] at hk
      rcases hk with rfl | rfl
      · exact keyOk_of d1'
      · exact keyOk_of d2)
    exact k (.ref p) (.ref p) _ _ _ (q2 p) R4 (s1.trans (s2.trans s3)) rfl⟩⟩⟩
/-- d[y] = x, y a pair that is known by its place -/
def dPutT (K : PySem.W.Frag) (td ti tx : TD UD) : TDS UD := fun D ρ w => tx ρ w fun x w1 => td ρ w1 fun y w2 => ti ρ w2 fun z w3 => ∃ a b ks kvs, y = .ref a ∧ z = .ref b ∧ wHas w3 b ks ∧ wGet w3 a = some (.t kvs) ∧ wK w3 = K ∧ kvs.length < sizeLine ∧ D.nx ρ (wPut w3 a (.t (dput kvs ks x)))
theorem ds_putT {value : Expr} (hK : X.K = K) (hu : X.A.units + 64 < cLine) (ho : DE X UD o td) (hi : DE X UD i ti) (hv : DE X UD value tx) (hs : swapsWith value (some (.Subscript o i pos')) pos.line X.env = pure false := by rfl) : DS X UD (.Assign [.Subscript o i pos'] value pos) (dPutT K td ti tx) := by
  subst hK
  exact ⟨fun e => (ps_dput (by omega) (ho.run e) (hi.run e) (hv.run e) hs).weak fun D σ H ⟨F, ρ, w, De, R, q, E⟩ => ⟨F, ρ, w, _, R, q, fun x v F1 w1 H1 q1 R1 s1 d1 => ⟨F1, ρ, w1, _, R1, q1, fun y u F2 w2 H2 q2 R2 s2 d2 => ⟨F2, ρ, w2, _, R2, q2, fun z t F3 w3 H3 ⟨a, b, ks, kvs, e1, e2, hh, g, eK, hl, q3⟩ R3 s3 d3 => by
    subst e1 e2
    obtain ⟨fb, okb⟩ := R3.hasTs hh
    obtain ⟨fa, ⟨vs, hd, dv⟩, ok⟩ := R3.dcAt g
    have hb : H3 b = some (.tup (ks.map kV)) := R3.bas.fh _ _ fb
    have ev : t = .ref b := d3
    have eu : u = .ref a := d2
    refine ⟨a, _, eu, by rw [ev]; exact DPut.t hd hb (by rw [dv.length]; exact hl), ?_⟩
    have dx := Din.mono s3 _ _ (Din.mono s2 _ _ d1)
    have R4 := R3.dWrite g (c' := .t (dput kvs ks x)) (o := .dT (putK vs ks v)) ⟨⟨_, upd_same, VD.put (by rw [show w3.2.K = X.K from eK]; exact dx) dv⟩, fun p hp => by
      rcases dput_keys hp with h | ⟨q, hq, h⟩
      · rw [h]; exact okb
      · rw [← h]; exact ok q hq⟩
    exact E.nx F3 ρ _ σ _ q3 R4 (s1.trans (s2.trans s3))⟩⟩⟩⟩
end
/-! ### [x + d[x] for x in sorted(d)] -/
def tupOf : Option Dt → List Dt
  | some (.tup ys) => ys
  | _ => []
def rowOf (kvs : List (List Key × Dt)) (ks : List Key) : Dt := .tup (ks.map kD ++ tupOf (dval kvs ks))
def rowsOf (kvs : List (List Key × Dt)) : List Dt := ((kvs.map (·.1)).mergeSort ksLe).map (rowOf kvs)
def dRowsT (K : PySem.W.Frag) (m n : Nat) : TDL UD := fun ρ w Q => ∃ a kvs, m < ρ.length ∧ ρ[n]? = some (some (.d (.ref a))) ∧ wGet w a = some (.t kvs) ∧ wK w = K ∧ kvs.length ≤ sizeLine ∧ (∀ p ∈ kvs, ∃ s i ys, p.1 = spotK s i ∧ p.2 = .tup ys ∧ ys.length = 2) ∧ Q (rowsOf kvs) w
section
variable {X : Cx} {pos : Pos}
theorem lt1 {a c : Nat} (h : a + 64 < c) : a + 1 < c := by omega
theorem df_rowsT {elt tg iter : Expr} {scope : Scope} {own : List (Str × Nat)} {m n : Nat} (hc : X.calm = true) (hN : X.N.Nodup) (hi : PI X tg iter (iList X.K (tCB (rSortDT X) (tCons (tVar n) tNil)))) (ok : BlkOk X.N X.env.scope scope own)
    (hg : ∀ (s : Shared) (H : Hp) (C : Addr) (cl : List (Str × Addr)) (fp : List Addr), PG (X.blk s H scope (compEnvC scope cl C X.env) fp) tg (gName m))
    (he : ∀ (s : Shared) (H : Hp) (C : Addr) (cl : List (Str × Addr)) (fp : List Addr), PE (X.blk s H scope (compEnvC scope cl C X.env) fp) elt (tOp (rAddD X.K) (tVar m) (tDGet (tVar n) (tVar m))))
    (hm : m ∈ own.map (·.2) := by decide) (hn : n ∉ own.map (·.2) := by decide) (hs : ∀ x, foldedSetIterable iter X.env x = pure x := by intro _; rfl) {K : PySem.W.Frag} (hK : X.K = K := by rfl) :
    DF X UD (.ListComp elt [⟨tg, iter, [], 0⟩] scope pos) (dRowsT K m n) := by
  subst hK
  refine ⟨fun e => (pe_lc hc hN hi ok hg (fun _ _ _ _ _ => pts_nil) he hs).weak fun σ H Q ⟨F, ρ, w, Q', R, ⟨a, kvs, hml, hρ, g, eK, hz, sh, q⟩, k⟩ => ?_⟩
  obtain ⟨va, hσ, dva⟩ := R.slot n _ hρ
  cases (show va = .ref a from dva)
  obtain ⟨fa, ⟨vs, hd, dv⟩, okk⟩ := R.dcAt g
  generalize hvs : own.map (·.2) = ws at hm hn
  refine ⟨.ref a, hσ, a, vs, rfl, hd, fun p hp => ?_, fun ps l hps hb hl => ⟨l, rfl, ⟨_, SqL.of upd_same⟩, fun D hD => ?_⟩⟩
  · have hk : p.1 ∈ kvs.map (·.1) := by rw [← dv.keys]; exact List.mem_map.mpr ⟨p, hp, rfl⟩
    obtain ⟨r, hr, er⟩ := List.mem_map.mp hk
    obtain ⟨s, i, ys, h1, _⟩ := sh r hr
    refine ⟨s, i, by rw [← er]; exact h1, ?_⟩
    have := okk r hr (.inr s) (by rw [h1]; exact List.mem_cons_self ..)
    exact this
  -- the list of the keys lies there
  obtain ⟨R1, f1⟩ := R.mine hl (ps.map fun q => V.ref q.2)
  generalize hH1 : upd H l (.lst (ps.map fun q => V.ref q.2)) = H1 at R1 f1 hD
  have H1l : H1 l = some (.lst (ps.map fun q => V.ref q.2)) := by rw [← hH1]; exact upd_same
  have keys : ∀ q ∈ ps, q.1 ∈ kvs.map (·.1) := fun q hq => by
    have : q.1 ∈ ps.map (·.1) := List.mem_map.mpr ⟨q, hq, rfl⟩
    rw [hps] at this
    rw [← dv.keys]; exact List.mem_mergeSort.mp this
  have H1b : ∀ q ∈ ps, H1 q.2 = some (.tup (q.1.map kV)) ∧ ¬ UD.foot w q.2 := fun q hq => by
    have h0 := hb q hq
    refine ⟨by rw [← hH1, upd_ne (ne_of_none h0 hl)]; exact h0, fun z => ?_⟩
    obtain ⟨⟨⟨r1, r3⟩, _⟩, rt⟩ := R.bas.rep
    rcases z with z | ⟨c, z⟩ | ⟨q, z⟩
    · obtain ⟨⟨_, _, _, _, _, h1, _⟩, _⟩ := rt _ z
      rw [h0] at h1; cases h1
    · have := (r1 _ _ z).2
      cases c with
      | k kk => obtain ⟨⟨_, h1, _⟩, _⟩ := this; rw [h0] at h1; cases h1
      | t kk => obtain ⟨⟨_, h1, _⟩, _⟩ := this; rw [h0] at h1; cases h1
      | o C fs => obtain ⟨_, _, h1, _⟩ := this; rw [h0] at h1; cases h1
      | l xs => obtain ⟨_, h1, _⟩ := this; rw [h0] at h1; cases h1
    · obtain ⟨_, _, h1, _⟩ := r3 _ z
      rw [h0] at h1; cases h1
  have B0 : Bas UD ⟨F, H1, w⟩ F w (upd H1 D (.lst [])) := ((Bas.start R1.bas.fh R1.bas.rep).mine hD _).1
  obtain ⟨_, fp, nf, ep⟩ := R1.bas.mine hD (.lst [])
  have pl : ps.length = kvs.length := by
    have := congrArg List.length hps
    rw [List.length_map, List.length_mergeSort, List.length_map, dv.length] at this; exact this
  let I : Nat → Hp → Prop := fun i H' => ∃ F' us, Bas UD ⟨F, H1, w⟩ F' w H' ∧ Own UD ⟨F, H1, w⟩ F' w H' D us ∧ DinL X.K F' ((ps.take i).map fun q => rowOf kvs q.1) us
  refine ⟨fun i m H' => m = ps.length - i ∧ i ≤ ps.length ∧ I i H', ⟨ps.length, by simp, Nat.zero_le _, F, [], B0, ⟨upd_same, fp, nf, hD⟩, rfl⟩, ?_⟩
  rintro i mm H' ⟨rfl, hi, F', us, C, O, d⟩
  have lst : H' l = some (.lst (ps.map fun q => V.ref q.2)) := C.keep l _ H1l f1.own.nf
  by_cases hlt : i < ps.length
  · right
    have hx : (ps.map fun q => V.ref q.2)[i]? = some (V.ref ps[i].2) := by rw [List.getElem?_map, List.getElem?_eq_getElem hlt]; rfl
    refine ⟨⟨_, _, SqL.of lst, hx⟩, I (i + 1), fun H2 p => ⟨ps.length - (i + 1), by omega, rfl, hlt, p⟩, fun x H2 hy => ?_⟩
    obtain ⟨e1, hy⟩ := hy
    subst e1
    have ex := hy _ (SqL.of lst)
    rw [hx] at ex
    cases ex
    have hq := List.getElem_mem hlt
    obtain ⟨hb1, nfb⟩ := H1b _ hq
    have hb2 : H2 ps[i].2 = some (.tup (ps[i].1.map kV)) := C.keep _ _ hb1 nfb
    obtain ⟨⟨⟨r1, _⟩, _⟩, _⟩ := C.rep
    obtain ⟨_, ⟨vs2, hd2, dv2⟩, okk2⟩ := r1 a (.t kvs) (DV.get_mem g)
    -- what stands at the key
    obtain ⟨r, hr, er⟩ := List.mem_map.mp (keys _ hq)
    obtain ⟨s0, i0, ys0, h1, _, _⟩ := sh r hr
    have hkey : ps[i].1 = spotK s0 i0 := by rw [← er]; exact h1
    obtain ⟨x0, hx0⟩ : ∃ x0, dval kvs ps[i].1 = some x0 := by
      have := dval_in.mpr (keys _ hq)
      cases z : dval kvs ps[i].1 with
      | none => rw [z] at this; cases this
      | some x0 => exact ⟨x0, rfl⟩
    obtain ⟨_, _, ys, _, ey, ly⟩ := sh _ (dval_some hx0)
    cases (show x0 = .tup ys from ey)
    obtain ⟨v0, hv0, dv0⟩ := dv2.val.1 _ hx0
    have dv0 : Din X.K F' (.tup ys) v0 := (show w.2.K = X.K from eK) ▸ dv0
    obtain ⟨p2, us2, ev0, sq2, du2⟩ := dv0
    subst ev0
    have wl : m < (wipe σ ws).length := by rw [wipe_length, ← R.len]; exact hml
    refine ⟨(wipe_set hm).trans (wipe_again ws ws σ fun _ h => h), ?_⟩
    unfold tYes
    dsimp only
    rw [if_pos rfl]
    refine ⟨.ref ps[i].2, List.getElem?_set_self wl, .ref a, ?_, .ref ps[i].2, List.getElem?_set_self wl, a, .ref p2, rfl, ?_, ?_⟩
    · rw [List.getElem?_set_ne (fun z : m = n => hn (by rw [← z]; exact hm)), wipe_get hn]; exact hσ
    · rw [← hv0]; exact DGet.t hd2 hb2
    have l2 := du2.length
    refine .inr ⟨ps[i].2, p2, ps[i].1.map kV, us2, rfl, rfl, .inl (.inl hb2), SqT.mono C.fh sq2, ?_, fun z => ?_, fun _ z => ?_, fun _ _ r hr => ?_⟩
    · rw [hkey, List.length_map]; show 2 + us2.length ≤ sizeLine; rw [l2, ly]; decide
    · rw [hkey] at z; cases z
    · rw [z] at l2; rw [ly] at l2; cases l2
    · have C2 := C.laid hr (.tup (ps[i].1.map kV ++ us2))
      have Dr : D ≠ r := ne_of_none O.hl hr
      have f' : F' r = none := C.fh.free hr
      have sf : Same F' (upd F' r (.tup (ps[i].1.map kV ++ us2))) := fun b u h => by rw [upd_ne (ne_of_none h f')]; exact h
      have O2 : Own UD ⟨F, H1, w⟩ (upd F' r (.tup (ps[i].1.map kV ++ us2))) w (upd H2 r (.tup (ps[i].1.map kV ++ us2))) D us := ⟨by rw [upd_ne Dr]; exact O.hl, by rw [upd_ne Dr]; exact O.fl, O.nf, O.el⟩
      refine ⟨us, O2.hl, ?_, ?_⟩
      · have := d.length
        rw [List.length_map, List.length_take, Nat.min_eq_left (Nat.le_of_lt hlt)] at this
        rw [this]; omega
      · obtain ⟨C3, O3⟩ := C2.write O2 (us ++ [.ref r])
        refine ⟨_, _, C3, O3, ?_⟩
        rw [List.take_add_one, List.getElem?_eq_getElem hlt, List.map_append]
        refine (DinL.mono sf _ _ d).append ⟨.ref r, [], rfl, ⟨r, ps[i].1.map kV ++ us2, rfl, .inl (.inl upd_same), ?_⟩, rfl⟩
        have e0 : tupOf (dval kvs ps[i].1) = ys := by rw [hx0]; rfl
        rw [e0]
        refine DinL.append (dinL_of_k _ fun k hk => ?_) (DinL.mono sf _ _ du2)
        obtain ⟨q2, hq2, e2⟩ := List.mem_map.mp (keys _ hq)
        have := okk q2 hq2 k (by rw [e2]; exact hk)
        cases k with
        | inl i => exact rfl
        | inr s => exact ⟨rfl, this⟩
  · left
    have e1 : i = ps.length := by omega
    subst e1
    refine ⟨⟨_, SqL.of lst, by rw [List.length_map]; exact Nat.le_refl _⟩, ?_⟩
    have R2 := R1.after C
    rw [List.take_of_length_le (Nat.le_refl _)] at d
    refine k (rowsOf kvs) D us F' w H' q R2 C.f ⟨⟨O.hl, O.fl, O.nf, ep⟩, fun j xs hj hs => ?_⟩ ?_
    · obtain ⟨l2, us2, h1, O2, _⟩ := R1.own j xs hj
      rw [hs] at h1; cases h1
      have z := O2.hl
      rw [hD] at z; cases z
    · have : rowsOf kvs = ps.map fun q => rowOf kvs q.1 := by
        unfold rowsOf
        rw [← dv.keys, ← hps, List.map_map]; rfl
      rw [this]; exact d
end
section
variable {K : PySem.W.Frag} {td ti tx ta tb : TD UD} {ρ : Rho} {w : UD.W} {Q : Dt → UD.W → Prop} {QL : List Dt → UD.W → Prop} {D : DEnds UD} {m n : Nat}
theorem ev_newT : dNewT ρ w Q = ∀ p, wGet w p = none → Q (.ref p) (wNew w p (.t [])) := rfl
theorem ev_tupK : dTupK ta tb ρ w Q = ta ρ w fun x w1 => tb ρ w1 fun y w2 => ∃ j k, x = kD j ∧ y = kD k ∧ ∀ p, Q (.ref p) (wTs w2 p [j, k]) := rfl
theorem ek_putT : dPutT K td ti tx D ρ w = tx ρ w fun x w1 => td ρ w1 fun y w2 => ti ρ w2 fun z w3 => ∃ a b ks kvs, y = .ref a ∧ z = .ref b ∧ wHas w3 b ks ∧ wGet w3 a = some (.t kvs) ∧ wK w3 = K ∧ kvs.length < sizeLine ∧ D.nx ρ (wPut w3 a (.t (dput kvs ks x))) := rfl
theorem ev_rowsT : dRowsT K m n ρ w QL = ∃ a kvs, m < ρ.length ∧ ρ[n]? = some (some (.d (.ref a))) ∧ wGet w a = some (.t kvs) ∧ wK w = K ∧ kvs.length ≤ sizeLine ∧ (∀ p ∈ kvs, ∃ s i ys, p.1 = spotK s i ∧ p.2 = .tup ys ∧ ys.length = 2) ∧ QL (rowsOf kvs) w := rfl
end
end DL

set_option Elab.async false
set_option linter.all false
set_option maxRecDepth 100000
set_option maxHeartbeats 4000000
namespace DL
open PySem L2
/-! ### tuple * int, once or more, the empty one too -/
section
open PySem.Spec PyProof.Rows
theorem tuple_mul_same (l : Addr) (items : Array Value) (n : Nat) (dd : Option Addr) (sl : Array (Option Value)) (x : Int) (u : Tok) (c0 : (decide (x < -(2 ^ 63)) || decide (x ≥ 2 ^ 63)) = false) (c1 : (items.isEmpty || x == 1) = true) :
    Meets (Builtin.«tuple.__mul__» ⟨[.ref l, .int x u], []⟩) (fun _ R s => s.heap.get? l = some { cls := .type "tuple", dict := dd, data := .seq items n, slots := sl } ∧ R (.ok (.ret (Value.ref l))) s) :=
  .of_wp fun prog w A R s h => by
    obtain ⟨hp, g, d, tk, os⟩ := s
    obtain ⟨hl, h⟩ := h
    have f1 := AutoSeq1.idx_int
    wp_walk using wpAny_loadPart' hl
    repeat (first
      | (refine wpAny_ite_false (decide_eq_false (by rw [c0]; exact Bool.false_ne_true)) ?_; wp_walk using wpAny_loadPart' hl)
      | (refine wpAny_ite_true (decide_eq_true c1) ?_; wp_walk using wpAny_loadPart' hl))
    exact ⟨_, rfl, h⟩
def rRepS (K : PySem.W.Frag) : R2 := fun x y H Q => ∃ l k xs, x = .ref l ∧ y = .int k ∧ SqT K H l xs ∧ (xs = [] ∨ k = 1) ∧ 0 ≤ k ∧ k ≤ 1000 ∧ Q (.ref l) H
variable {X : Cx}
theorem op_repS : OpR X (binaryOp .Mult) (rRepS X.K) := by
  intro pins s σ H x y v u Q I rx ry h
  obtain ⟨l, k, xs, rfl, rfl, hT, hne, h1, h2, q⟩ := h
  cases rx
  obtain ⟨t, rfl⟩ := ry
  obtain ⟨its, r, ⟨⟨cls, dd, data, sl⟩, ho, hc, n, hd⟩, hs⟩ := I.tuple hT
  simp only at hc hd
  subst hc hd
  have hle : its.length = xs.length := r.length.symm
  have c0 : (decide (k < -(2 ^ 63)) || decide (k ≥ 2 ^ 63)) = false := by
    rw [decide_eq_false (by omega), decide_eq_false (by omega)] <;> rfl
  have c1 : (its.toArray.isEmpty || k == 1) = true := by
    rcases hne with e | e
    · subst e
      have : its = [] := List.eq_nil_of_length_eq_zero hle
      subst this; rfl
    · subst e
      rw [show ((1 : Int) == 1) = true from rfl, Bool.or_true]
  refine wpAny_binaryOp_repeat_ref (T := "tuple") (U := "int") (by decide) ⟨_, ho, rfl⟩ (fun s' => typeIs_int s' k t) noFill_tuple_mul F.fills_int_mul F.slot_int_rmul repeat_tuple F.slot_int_index.lookup
    (call_meets F.slot_int_rmul (typeIs_int s k t) F.entry_int_rmul (F.args_int_rmul_2 _ _) (int_rmul_tuple k t l its.toArray n dd sl)
      ⟨ho, rfl, ⟨_, ho, rfl⟩, call_meets F.slot_tuple_mul ⟨_, ho, rfl⟩ F.entry_tuple_mul (F.args_tuple_mul_2 _ _) (tuple_mul_same l its.toArray n dd sl k t c0 c1) ⟨ho, ?_⟩⟩)
  exact ⟨.ref l, H, I.tok _, rfl, q⟩
end
section
variable {U : Wd} {X : Cx} {a b : Expr} {pos : Pos} {ta tb : TD U}
def gRepX (x y : Dt) (Q : Dt → Prop) : Prop := match x, y with
  | .tup xs, .int k => (1 ≤ k ∧ k ≤ 1000 ∧ xs.length ≤ 1000) ∧ Q (.tup (List.replicate k.toNat xs).flatten)
  | _, _ => False
theorem g_RepX {xs : List Dt} {k : Int} {Q : Dt → Prop} : gRepX (.tup xs) (.int k) Q = ((1 ≤ k ∧ k ≤ 1000 ∧ xs.length ≤ 1000) ∧ Q (.tup (List.replicate k.toNat xs).flatten)) := rfl
theorem bin_repX {K : PySem.W.Frag} : Bin U K (fun x y H Q => rRepT K x y H Q ∨ rRepS K x y H Q) gRepX := ⟨fun e F ρ w σ H x y v u Q Q' R hx hy q k => by
  unfold gRepX at q
  split at q
  · rename_i xs n
    obtain ⟨⟨q2, q3, q4⟩, q5⟩ := q
    by_cases hS : xs = [] ∨ n = 1
    · right
      have ht := hx
      obtain ⟨p, vs, e1, h1, d1⟩ := hx.tup
      have e2 := hy.int
      subst e2
      have er : (List.replicate n.toNat xs).flatten = xs := by
        rcases hS with h | h
        · subst h
          exact List.flatten_eq_nil_iff.mpr fun l hl => (List.mem_replicate.mp hl).2
        · subst h; simp
      rw [er] at q5
      refine ⟨p, n, vs, e1, rfl, SqT.mono R.bas.fh h1, hS.imp (fun z => ?_) id, by omega, q3, ?_⟩
      · have l1 := d1.length
        rw [z] at l1
        exact List.eq_nil_of_length_eq_zero l1
      · exact k _ _ F H q5 R (Same.refl _) ⟨p, vs, rfl, h1, d1⟩
    · left
      have hS := not_or.mp hS
      refine (bin_repT (K := K)).run e F ρ w σ H (.tup xs) (.int n) v u Q Q' R hx hy ⟨⟨hS.1, by omega, q3, q4⟩, q5⟩ k
  · exact q.elim⟩
theorem de_repX (ha : DB X U a ta) (hb : DB X U b tb) : DE X U (.BinOp a .Mult b pos) (dOp gRepX ta tb) := de_op (OpR.or op_repT op_repS) bin_repX ha hb
end
end DL

set_option Elab.async false
set_option linter.all false
set_option maxRecDepth 100000
set_option maxHeartbeats 4000000
namespace DL
open PySem L2
/-! ### t[::-1] of a tuple -/
section
open PySem.Spec PyProof.Rows
variable {prog : Program} {w : World} {A : Around} {E : Value → Shared → Prop} {s : Shared}
theorem rev_places (n : Nat) : Builtin.Slice.slicePlaces ((n : Int) - 1) (-1) (-1) = n := by
  unfold Builtin.Slice.slicePlaces
  rw [if_neg (by decide), show (- -1 : Int) = 1 by decide, Int.ediv_one]
  split <;> omega
theorem rev_adjust (n : Nat) : Builtin.Slice.sliceAdjust none none (-1) (n : Int) = ((n : Int) - 1, -1) := by
  unfold Builtin.Slice.sliceAdjust
  rfl
theorem rev_pick (xs : Array Value) : (((List.range xs.size).filterMap fun (k : Nat) => xs[(((xs.size : Int) - 1) + (k : Int) * (-1)).toNat]?).toArray) = xs.toList.reverse.toArray := by
  have e : (List.range xs.size).filterMap (fun (k : Nat) => xs[(((xs.size : Int) - 1) + (k : Int) * (-1)).toNat]?) = ((List.range xs.size).map fun k => xs.size - 1 - k).filterMap (xs[·]?) := by
    rw [List.filterMap_map]
    have go : ∀ l : List Nat, (∀ k ∈ l, k < xs.size) → l.filterMap (fun (k : Nat) => xs[(((xs.size : Int) - 1) + (k : Int) * (-1)).toNat]?) = l.filterMap (((fun x => xs[x]?)) ∘ fun k => xs.size - 1 - k) := by
      intro l
      induction l with
      | nil => intro _; rfl
      | cons k l ih =>
        intro hl
        have hk := hl k (List.mem_cons_self ..)
        have ek : (((xs.size : Int) - 1) + (k : Int) * (-1)).toNat = xs.size - 1 - k := by omega
        rw [List.filterMap_cons, List.filterMap_cons, ih fun j hj => hl j (List.mem_cons_of_mem _ hj), ek]
        rfl
    exact go _ fun k hk => List.mem_range.mp hk
  rw [e, PySem.W.krv_range, List.filterMap_reverse, PySem.W.krv_all]
theorem rev_applied {sl : Addr} {u : Tok} {n : Nat} {Q : Int × Int × Nat → Shared → Prop} (hs : s.heap.IsSliceOf sl .none .none (.int (-1) u)) (h : Q ((n : Int) - 1, -1, n) s) : wpAny (model prog w) A (Builtin.Slice.sliceApplied (.ref sl) (pure (n : Int))) Q E s := by
  obtain ⟨os, hos, hcs, hds⟩ := id hs
  unfold Builtin.Slice.sliceApplied Builtin.Slice.sliceFields
  refine wpAny_bind (wpAny_bind (wpAny_field hos hds (x := .none) rfl (wpAny_bind (wpAny_field hos hds (x := .none) rfl (wpAny_bind (wpAny_field hos hds (x := .int (-1) u) rfl (wpAny_pure ?_)))))))
  refine wpAny_bind (slicePart_int ?_)
  show wpAny _ _ (if ((-1 : Int) == 0) = true then _ else _) _ _ s
  rw [if_neg (by decide)]
  refine wpAny_bind (slicePart_none (wpAny_bind (slicePart_none (wpAny_bind (wpAny_pure ?_)))))
  show wpAny _ _ (match Builtin.Slice.sliceAdjust none none (-1) (n : Int) with | (lo, hi) => pure (lo, (-1 : Int), Builtin.Slice.slicePlaces lo hi (-1))) _ _ s
  rw [rev_adjust]
  show wpAny _ _ (pure ((n : Int) - 1, (-1 : Int), Builtin.Slice.slicePlaces ((n : Int) - 1) (-1) (-1))) _ _ s
  rw [rev_places]
  exact wpAny_pure h
theorem rev_item {t sl : Addr} {items : Array Value} {u : Tok} {Q : Value → Shared → Prop} (ht : IsTup s.heap t items) (hs : s.heap.IsSliceOf sl .none .none (.int (-1) u))
    (h : Q (.ref s.heap.objs.size) { s with heap := s.heap.push { cls := .type "tuple", data := .seq items.toList.reverse.toArray } }) (hsz : items.size ≤ sizeLine) : wpAny (model prog w) A (getItem (.ref t) (.ref sl)) Q E s := by
  have hz : sizeOk (.seq items.toList.reverse.toArray) := by
    show items.toList.reverse.toArray.size ≤ sizeLine
    rw [List.size_toArray, List.length_reverse, Array.length_toList]; exact hsz
  obtain ⟨os, hos, hcs, hds⟩ := id hs
  have hTs : s.TypeIs (.ref sl) "slice" := ⟨os, hos, hcs⟩
  unfold getItem
  try with_reducible refine wpAny_holding ?_
  first | refine wpAny_bind (wpAny_pure ?_) | skip
  refine wpAny_bind (wpAny_sequenceKey ht.typeIs (by decide) ?_)
  refine wpAny_bind (wpAny_callSpecial?_slot (name := Str.ofString "__getitem__") ht.typeIs slot_tuple_getitem
    (wpAny_call_entry slot_tuple_getitem ht.typeIs entry_tuple_getitem ?_ (args_tuple_getitem _ _)))
  show wpAny _ _ (Builtin.Tuple.tupleItemsOf (.ref t) >>= _) _ _ s
  refine wpAny_bind (tupleItemsOf_ ht ?_)
  refine wpAny_bind (wpAny_typeOf hTs ?_)
  rw [if_pos (by decide)]
  refine wpAny_bind (rev_applied hs ?_)
  show wpAny _ _ (if (((items.size : Int) - 1) == 0 && (-1 : Int) == 1 && items.size == items.size) = true then _ else _) _ _ s
  rw [if_neg (by rw [show ((-1 : Int) == 1) = false from rfl, Bool.and_false, Bool.false_and]; exact Bool.false_ne_true), rev_pick]
  first
    | exact wpAny_bind (m := Builtin.Tuple.tupleExact _) (wpAny_newObj_type (wpAny_pure ⟨_, rfl, wpAny_pure h⟩) hz)
    | exact wpAny_bind (m := Builtin.Tuple.tupleExact _) (wpAny_newObj_type (wpAny_bind (wpAny_pure (wpAny_pure ⟨_, rfl, wpAny_pure h⟩))) hz)
    | exact wpAny_bind (wpAny_bind (m := Builtin.Tuple.tupleExact _) (wpAny_newObj_type (wpAny_pure (wpAny_pure ⟨_, rfl, wpAny_pure h⟩)) hz))
    | exact wpAny_bind (wpAny_bind (m := Builtin.Tuple.tupleExact _) (wpAny_newObj_type (wpAny_pure ⟨_, rfl, wpAny_pure h⟩) hz))
end
section
open PySem.Spec PyProof.Rows
variable {X : Cx} {U : Wd} {ex : Expr} {ta : TD U} {pos : Pos}
def tRevT (K : PySem.W.Frag) (te : TE) : TE := fun σ H Q => te σ H fun x H1 => ∃ a xs, x = .ref a ∧ SqT K H1 a xs ∧ ∀ p, H1 p = none → Q (.ref p) (upd H1 p (.tup xs.reverse))
theorem pe_revT {e : Expr} {te : TE} {k : Nat} {p1 p2 p3 pos : Pos} (he : PE X e te) : PE X (.Subscript e (.Slice none none (some (.UnaryOp .USub (.Constant (.int 1) k p1) p2)) p3) pos) (tRevT X.K te) := by
  refine ⟨fun pins s σ H Q I h => ?_⟩
  refine Subscript_ (thn (he.run pins s σ H _ I h) fun v s1 ⟨x, H1, I1, r1, a, xs, ex, hx, q⟩ => ?_)
  subst ex
  cases r1
  have minus : PO X (some (.UnaryOp .USub (.Constant (.int 1) k p1) p2)) (tPart (tUn (rU fun i => .int (-i)) (tC (.int 1)))) := po_some (pe_un un_neg pe_int)
  refine wpAny_Slice (thn (po_none.run pins s1 σ H1 (fun o H2 => o = none ∧ H2 = H1) I1 ⟨rfl, rfl⟩) fun vl s2 ⟨l, H2, I2, pl, el, e2⟩ => ?_)
  subst el e2
  refine thn (po_none.run pins s2 σ H2 (fun o H3 => o = none ∧ H3 = H2) I2 ⟨rfl, rfl⟩) fun vu s3 ⟨u, H3, I3, pu, eu, e3⟩ => ?_
  subst eu e3
  refine thn (minus.run pins s3 σ H3 (fun o H4 => o = some (-1) ∧ H4 = H3) I3 ⟨1, rfl, -1, rfl, rfl, rfl⟩) fun vs s4 ⟨o, H4, I4, ps, eo, e4⟩ => ?_
  subst eo e4
  cases pl
  cases pu
  cases ps with
  | int i t =>
  have I5 : Inv X pins σ H4 { s4 with heap := s4.heap.push { cls := .type "slice", data := .fields #[.none, .none, .int (-1) t] } } := I4.kept (t' := s4.toks) fun b ob q => Heap.get?_push_of_some _ q
  obtain ⟨its, r, ht, hz⟩ := I5.tuple hx
  show wpAny (model X.prog X.w) X.A (subscriptTail e (.Slice none none (some (.UnaryOp .USub (.Constant (.int 1) k p1) p2)) p3) (.ref a) (.ref s4.heap.objs.size)) (EP X pins σ Q) X.xe { s4 with heap := s4.heap.push { cls := .type "slice", data := .fields #[.none, .none, .int (-1) t] } }
  refine tail_any (ops := [.ref a, .ref s4.heap.objs.size]) ht.typeIs (slot_tuple_getitem.lookup) ?_ (by with_unfolding_all rfl)
  refine rev_item ht (Heap.IsSliceOf.new _ .none .none (.int (-1) t)) ?_ (by rw [List.size_toArray, ← r.length]; exact hz)
  refine ⟨.ref _, _, I5.laid (t' := s4.toks) (o := .tup xs.reverse) (fun b ob q => Heap.get?_push_of_some _ q) (Nat.le_refl _) ?_, rfl, q _ (I5.hok.fresh (Nat.le_refl _))⟩
  exact ⟨by rw [List.length_reverse]; exact hz, _, r.reverse, IsTup.new _ _⟩
def dRevT (ta : TD U) : TD U := fun ρ w Q => ta ρ w fun x w1 => match x with
  | .tup xs => Q (.tup xs.reverse) w1
  | _ => False
theorem de_revT {k : Nat} {p1 p2 p3 : Pos} (he : DB X U ex ta) : DE X U (.Subscript ex (.Slice none none (some (.UnaryOp .USub (.Constant (.int 1) k p1) p2)) p3) pos) (dRevT ta) :=
  ⟨fun e => (pe_revT (he.run e)).weak fun σ H Q ⟨F, ρ, w, Q', R, q, k⟩ => ⟨F, ρ, w, _, R, q, fun x v F1 w1 H1 q1 R1 s1 b1 => by
    cases x with
    | tup xs =>
      obtain ⟨p, vs, e1, h1, d1⟩ := b1.tup
      subst e1
      refine ⟨p, vs, rfl, SqT.mono R1.bas.fh h1, fun r hr => ?_⟩
      obtain ⟨R2, s2⟩ := R1.laid hr (.tup vs.reverse)
      exact k _ _ _ w1 _ q1 R2 (s1.trans s2) ⟨r, vs.reverse, rfl, .inl (.inl upd_same), DinL.mono s2 _ _ d1.rev⟩
    | _ => exact (show False from q1).elim⟩⟩
theorem ev_revT {ρ : Rho} {w : U.W} {Q : Dt → U.W → Prop} : dRevT ta ρ w Q = ta ρ w fun x w1 => onTup x fun xs => Q (.tup xs.reverse) w1 := by
  unfold dRevT onTup
  rfl
end
end DL

set_option Elab.async false
set_option linter.all false
set_option maxRecDepth 100000
set_option maxHeartbeats 4000000
namespace DL
open PySem L2
section
variable {X : Cx} {U : Wd} {a b c ex : Expr} {pos : Pos}
/-- a statement that is never come to -/
def dNever : TDS U := fun _ _ _ => False
theorem ds_never {st : Stmt} : DS X U st dNever := ⟨fun e => ⟨fun pins s σ H D I ⟨F, ρ, w, De, R, q, E⟩ => q.elim⟩⟩
/-- x, y, z = a, b, c -/
def dPar3 (i j l : Nat) (ta : TDL U) : TDS U := fun D ρ w => ta ρ w fun xs w1 => match xs with
  | [x, y, z] => D.nx (((ρ.set i (some (.d x))).set j (some (.d y))).set l (some (.d z))) w1
  | _ => False
theorem DinL.three {K : PySem.W.Frag} {F : Hp} {x y z : Dt} {vs : List V} (h : DinL K F [x, y, z] vs) : ∃ u v t, vs = [u, v, t] ∧ Din K F x u ∧ Din K F y v ∧ Din K F z t := by
  obtain ⟨u, r1, e1, d1, v, r2, e2, d2, t, r3, e3, d3, e4⟩ := h
  cases (show r3 = [] from e4)
  subst e3 e2 e1
  exact ⟨u, v, t, rfl, d1, d2, d3⟩
theorem ds_par3 {i j l : Nat} {x y z : Str} {ta : TDL U} {px py pz pt : Pos} {kt k2 pt2} (hc : X.calm = true) (hN : X.N.Nodup) (hi : X.N[i]? = some x) (hj : X.N[j]? = some y) (hl : X.N[l]? = some z) (hij : i ≠ j) (hil : i ≠ l) (hjl : j ≠ l)
    (hx : X.env.scope.names.lookup x = some .local) (hy : X.env.scope.names.lookup y = some .local) (hz : X.env.scope.names.lookup z = some .local) (ha : DA X U [a, b, c] ta)
    (hw : swappedStores [.Tuple [.Name x px, .Name y py, .Name z pz] kt pt] (.Tuple [a, b, c] k2 pt2) X.env = pure (some [x, y, z]) := by first | rfl | kernel_rfl)
    (hs : swapsWithSole [.Tuple [.Name x px, .Name y py, .Name z pz] kt pt] (.Tuple [a, b, c] k2 pt2) pos.line X.env = pure false := by rfl) :
    DS X U (.Assign [.Tuple [.Name x px, .Name y py, .Name z pz] kt pt] (.Tuple [a, b, c] k2 pt2) pos) (dPar3 i j l ta) :=
  ⟨fun e => (ps_par3 hc hN hi hj hl hij hil hjl hx hy hz (ha.run e) hw hs).weak fun D σ H ⟨F, ρ, w, De, R, q, E⟩ => ⟨F, ρ, w, _, R, q, fun xs vs F1 w1 H1 q1 R1 s1 d1 => by
    split at q1
    · rename_i x y z
      obtain ⟨v, u, t, e1, d2, d3, d4⟩ := d1.three
      exact ⟨v, u, t, e1, E.nx F1 _ w1 _ H1 q1 (((R1.set d2 i).set d3 j).set d4 l) s1⟩
    · exact q1.elim⟩⟩
theorem ek_par3 {i j l : Nat} {ta : TDL U} {D : DEnds U} {ρ : Rho} {w : U.W} : dPar3 i j l ta D ρ w = ta ρ w fun xs w1 => match xs with
  | [x, y, z] => setK ρ i (some (.d x)) fun ρ' => setK ρ' j (some (.d y)) fun ρ'' => setK ρ'' l (some (.d z)) fun ρ3 => D.nx ρ3 w1
  | _ => False := rfl
end
end DL

set_option Elab.async false
set_option linter.all false
set_option maxRecDepth 100000
set_option maxHeartbeats 4000000
namespace DL
open PySem L2 LamX PyProof.Rows
/-! ### lambda x: (len(x), x), called: the key -/
section
variable {prog : Program} {w : World} {A : Around} {s : Shared}
/-- its scope: x its own, len a global -/
structure LenS (scope : Scope) (x : Str) : Prop where
  kind : scope.kind = .function
  co : scope.isCoroutine = false
  gen : scope.isGenerator = false
  cell : ∀ y ∈ scope.names, y.2 ≠ .cell
  own : scope.names.lookup x = some .local
  len : scope.names.lookup ("len" : Str) = some NameKind.globalImplicit
  dbg : (x == ("__debug__" : Str)) = false
def lenSB (scope : Scope) (x : Str) : Bool :=
  decide (scope.kind = .function) && (!scope.isCoroutine && (!scope.isGenerator && ((scope.names.all fun y => !decide (y.2 = .cell)) && (decide (scope.names.lookup x = some .local) && (decide (scope.names.lookup ("len" : Str) = some NameKind.globalImplicit) && !(x == ("__debug__" : Str)))))))
theorem lenS_by {scope : Scope} {x : Str} (h : lenSB scope x = true) : LenS scope x := by
  unfold lenSB at h
  simp only [Bool.and_eq_true, Bool.not_eq_true', decide_eq_true_eq, decide_eq_false_iff_not, List.all_eq_true] at h
  obtain ⟨h1, h2, h3, h4, h5, h6, h7⟩ := h
  exact ⟨h1, h2, h3, h4, h5, h6, h7⟩
theorem lam_len {f p c' : Addr} {x q : Str} {params : Arguments} {scope : Scope} {p1 p2 p3 p4 p5 : Pos} {k : Nat} {pm ctv : Value} {mg mb : Str → Option Value} {vs : List Value} {ds : List PyData}
    (S : LenS scope x) (hroom : A.depth < recursionLimit) (lim : s.heap.NoLimit) (hg : s.heap.Ns mainGlobals mg) (hml : mg "len" = none) (hb : s.heap.Ns builtinsNs mb) (hbl : mb "len" = some (.builtin "len"))
    (ho : s.heap.get? f = some (PySem.W.kla_obj "<lambda>" q params (.Tuple [.Call (.Name "len" p1) [.Name x p2] [] p3, .Name x p4] k p5) scope [] pm c' ctv)) (hcd : s.heap.CodeRec (.ref c') q)
    (hbind : ∀ u, bindArgs (PySem.W.kla_fn "<lambda>" q params (.Tuple [.Call (.Name "len" p1) [.Name x p2] [] p3, .Name x p4] k p5) scope [] pm (.ref c') ctv) ⟨[u], []⟩ = pure [(x, u)])
    (ht : IsTup s.heap p vs.toArray) (hz : vs.length ≤ sizeLine) (hr : Reads s.heap (.ref p) (.tuple ds) []) (hl : ds.length = vs.length) :
    wpAny (model prog w) A (call (.ref f) [.ref p]) (PySem.W.KeyPure (.tuple [.int ds.length, .tuple ds]) s) (fun _ _ => False) s := by
  refine wpAny_call (PySem.W.kla_callFunE hroom ho rfl S.co S.gen rfl hcd ?_)
  rw [hbind]
  refine wpAny_pure (wpAny_newFunctionEnv S.cell (fun y hy => ?_) (fun h₁ hns hsb => ⟨lim.fresh _ hsb, ?_⟩) S.kind)
  · cases List.mem_singleton.mp hy; exact S.own
  have kp : ∀ b o, s.heap.get? b = some o → h₁.get? b = some o := fun b o e => hsb.extBut b o (Nat.ne_of_lt (Heap.lt_size e)) (Heap.get?_push_of_some _ e)
  show codeAny _ _ (.expr _ (PySem.W.envX q scope s.heap.objs.size f (.ref c') [])) _ _
  have x1 : InCall s s.heap.objs.size (fun y => [(x, Value.ref p)].reverse.lookup y) { s with heap := h₁, toks := s.toks + [(x, Value.ref p)].length } := ⟨⟨_, _, rfl⟩, hns, kp, Nat.le_refl _⟩
  have lookx : ([(x, Value.ref p)].reverse.lookup x) = some (.ref p) := by
    show (match x == x with | true => some _ | false => _) = _
    rw [beq_self_eq_true]
  have var : ∀ {pos : Pos} {s1 : Shared} {A' : Around} {E : Value → Shared → Prop} {Q : Value → Shared → Prop}, s1.heap.Ns s.heap.objs.size (fun y => [(x, Value.ref p)].reverse.lookup y) → Q (.ref p) s1 →
      wpAny (model prog w) A' (eval (.Name x pos) (PySem.W.envX q scope s.heap.objs.size f (.ref c') [])) Q E s1 := fun hn h =>
    wpAny_Name (wpAny_loadName_local S.kind S.own hn lookx h) S.dbg
  refine PySem.W.kla_codeExpr ?_
  refine wpAny_Tuple ?_
  refine Calls.spliced_cons (wpAny_mono (call_builtin1I x1 S.kind S.len (by decide) hg hml hb hbl rfl (var hns ?_)) (fun v s1 h1 => h1) fun _ _ e => e)
  have ht1 : IsTup h₁ p vs.toArray := by
    obtain ⟨o, h1, h2⟩ := ht
    exact ⟨o, kp _ _ h1, h2⟩
  have hs : sizeLine = 16777216 := sizeLine_eq
  refine len_tuple (items := vs.toArray) ht1 (by rw [List.size_toArray]; omega) ?_
  refine Calls.spliced_cons (var hns ?_)
  refine Calls.spliced_nil ?_
  refine ⟨by rw [hs]; show 2 ≤ 16777216; decide, ?_⟩
  refine ⟨_, _, rfl, fun b o e => Heap.get?_push_of_some _ (kp b o e), ?_⟩
  have rd : Reads (h₁.push { cls := .type "tuple", data := .seq [Value.int ↑vs.toArray.size (s.toks + 1 + 1), Value.ref p].toArray }) (.ref p) (.tuple ds) [] := PyProof.Rows.Reads.keeps (fun b o e => Heap.get?_push_of_some _ (kp b o e)) hr
  refine .tuple (Heap.get?_push_size _ rfl) rfl rfl ?_
  have := ReadsAll.cons (Reads.int (h := h₁.push { cls := .type "tuple", data := .seq [Value.int ↑vs.toArray.size (s.toks + 1 + 1), Value.ref p].toArray }) (ds.length : Int) (s.toks + 1 + 1)) (ReadsAll.cons rd ReadsAll.nil)
  rw [hl] at this ⊢
  exact this
end
end DL

set_option Elab.async false
set_option linter.all false
set_option maxRecDepth 100000
set_option maxHeartbeats 4000000
namespace DL
open PySem L2 LamX PyProof.Rows
/-! ### the lambda is made, and the list sorted by it -/
/-- what a table of code objects has become -/
structure TabNew (H H' : Hp) (P : Addr) (q : Str) (ps ps' : Array Value) : Prop where
  tab : H' P = some (.tbl ps')
  tri : TriplesOk ps'.toList
  code : ∀ pos cv, codeAmong pos ps'.toList = some cv → codeAmong pos ps.toList = some cv ∨ ∃ c, cv = .ref c ∧ H c = none ∧ H' c = some (CodeO c q)
  keep : ∀ b o, b ≠ P → H b = some o → H' b = some o
def TabIs (H : Hp) (P : Addr) (q : Str) (ps : Array Value) : Prop :=
  H P = some (.tbl ps) ∧ TriplesOk ps.toList ∧ ∀ pos cv, codeAmong pos ps.toList = some cv → ∃ c, cv = .ref c ∧ H c = some (CodeO c q)
section
variable {X : Cx} {pins : List (Addr × Obj)} {σ : L2.St} {H : Hp} {s : Shared}
theorem lam_new {c P : Addr} {params : Arguments} {body : Expr} {scope : Scope} {pos : Pos} {ps : Array Value} {E : Value → Shared → Prop} {Q : Value → Shared → Prop} (J : Inv X pins σ H s) (TB : TabB X.base X.mg c P) (hc : X.env.code = .ref c)
    (hT : TabIs H P (X.env.qual ++ "<lambda>") ps) (hdef : defaultsOf params X.env = ([], [])) (hcl : closureFor scope X.env = pure [])
    (go : ∀ (f k : Addr) (pm ctv : Value) (ps' : Array Value) (H' : Hp) (t : Shared), Inv X pins σ H' t → TabNew H H' P (X.env.qual ++ "<lambda>") ps ps' →
      t.heap.get? f = some (PySem.W.kla_obj "<lambda>" (X.env.qual ++ "<lambda>") params body scope [] pm k ctv) → t.heap.CodeRec (.ref k) (X.env.qual ++ "<lambda>") → Q (.ref f) t) :
    wpAny (model X.prog X.w) X.A (eval (.Lambda params body scope pos) X.env) Q E s := by
  obtain ⟨hP, tri, old⟩ := hT
  have bi := TB.bm.keeps J.bk
  have oP := J.hok P _ hP
  refine PySem.W.kla_eval hdef ?_
  have gl := J.mod.glob.keeps J.bk
  have ch := TB.code.keeps J.bk
  rcases hca : codeAmong pos ps.toList with _ | cv
  · refine PySem.W.kla_makeFunction (mg := X.mg) hcl J.ok.glob gl hc ch oP tri hca TB.gP bi fun k ctv h' tk up ge lt rec tab => ?_
    obtain ⟨k2, o, fs, tq, ek, ho, hd, hq⟩ := id rec
    cases ek
    have nk : H k = none := J.hok.fresh ge
    have ne : P ≠ k := ne_of_none hP nk
    refine go _ k _ ctv (ps ++ #[rawInt pos.line, rawInt pos.col, .ref k]) (upd (upd H P (.tbl (ps ++ #[rawInt pos.line, rawInt pos.col, .ref k]))) k (CodeO k (X.env.qual ++ "<lambda>"))) _
      (inv_table J hP (fun b u hb e => Heap.get?_push_of_some _ (up b u hb e)) (Heap.get?_push_of_some _ tab) ge ⟨o, fs, tq, Heap.get?_push_of_some _ ho, hd, hq⟩)
      ⟨by rw [upd_ne ne, upd_same], ?_, fun p cv hcv => ?_, fun b u hb e => by rw [upd_ne (ne_of_none e nk), upd_ne hb]; exact e⟩ (Heap.get?_push_size _ rfl) ⟨k, o, fs, tq, rfl, Heap.get?_push_of_some _ ho, hd, hq⟩
    · rw [Array.toList_append]; exact PySem.TriplesOk_snoc _ _ _ _ tri
    · rw [Array.toList_append] at hcv
      rcases among_app _ tri hcv with z | z
      · exact .inl z
      · exact .inr ⟨k, z, nk, upd_same⟩
  · obtain ⟨k, ek, hk⟩ := old pos cv hca
    subst ek
    refine PySem.W.kla_makeFunctionHit (mg := X.mg) hcl J.ok.glob gl hc ch oP tri hca bi fun ctv h' tk up sz => ?_
    have J2 : Inv X pins σ H { s with heap := h'.push (PySem.W.kla_obj "<lambda>" (X.env.qual ++ "<lambda>") params body scope [] ((X.mg "__name__").getD .none) k ctv), toks := tk } := J.kept fun b u e => Heap.get?_push_of_some _ (up b u e)
    obtain ⟨⟨o, fs, tq, ho, hd, hq⟩, _, _⟩ := J2.hok k _ hk
    exact go _ k _ ctv ps H _ J2 ⟨hP, tri, fun _ _ z => .inl z, fun _ _ _ e => e⟩ (Heap.get?_push_size _ rfl) ⟨k, o, fs, tq, rfl, ho, hd, hq⟩
end
/-! ### the order by the length, then by the numbers -/
def iD (g : List Int) : Dt := .tup (g.map Dt.int)
def kI (g : List Int) : Dt := .tup [.int g.length, iD g]
def sortI (gs : List (List Int)) : List (List Int) := gs.mergeSort fun a b => leD (kI a) (kI b)
theorem alkL_ints : ∀ a b : List Int, alkL (a.map Dt.int) (b.map Dt.int) = true
  | [], b => by cases b <;> rfl
  | x :: a, [] => rfl
  | x :: a, y :: b => by
    show (alk (.int x) (.int y) && alkL (a.map Dt.int) (b.map Dt.int)) = true
    rw [alkL_ints a b]; rfl
theorem alk_kI (a b : List Int) : alk (kI a) (kI b) = true := by
  show (true && ((alkL (a.map Dt.int) (b.map Dt.int)) && true)) = true
  rw [alkL_ints]; rfl
theorem kI_np (g : List Int) : (kI g).np = true := by
  have : (iD g).np = true := npL_iff.mpr fun y hy => by obtain ⟨i, _, rfl⟩ := List.mem_map.mp hy; rfl
  show (true && ((iD g).np && true)) = true
  rw [this]; rfl
theorem kI_dep (g : List Int) : (kI g).dep ≤ 2 := dep_tup.mpr fun y hy => by
  simp only [List.mem_cons, List.not_mem_nil, or_false] at hy
  rcases hy with rfl | rfl
  · exact Nat.zero_le _
  · exact dep_tup.mpr fun z hz => by obtain ⟨i, _, rfl⟩ := List.mem_map.mp hz; exact Nat.zero_le _
theorem py_ints : ∀ g : List Int, Dt.pyL (g.map Dt.int) = g.map PyData.int
  | [] => rfl
  | i :: g => by show PyData.int i :: Dt.pyL (g.map Dt.int) = _; rw [py_ints g]; rfl
theorem kI_py (g : List Int) : (kI g).py = .tuple [.int g.length, .tuple (g.map PyData.int)] := by
  show PyData.tuple [.int g.length, .tuple (Dt.pyL (g.map Dt.int))] = _
  rw [py_ints]
theorem reads_ints {h : Heap} : ∀ {g : List Int} {us : List Value}, Vals (g.map V.int) us → ReadsAll h us (g.map PyData.int) []
  | [], us, r => by cases r; exact .nil
  | i :: g, us, r => by
    cases r with
    | cons h t =>
      obtain ⟨k, rfl⟩ := h
      exact .cons (as := []) (bs := []) (.int i k) (reads_ints t)
/-- a list of tuples of numbers -/
def rSK (K : PySem.W.Frag) : V → Hp → VK → Prop := fun v H Q => ∃ (l : Addr) (qs : List (List Int × V)), v = .ref l ∧ SqL K H l (qs.map (·.2)) ∧ (∀ q ∈ qs, ∃ p, q.2 = .ref p ∧ SqT K H p (q.1.map V.int)) ∧
  ∀ l', H l' = none → Q (.ref l') (upd H l' (.lst ((qs.mergeSort fun a b => leD (kI a.1) (kI b.1)).map (·.2))))
def tSK (K : PySem.W.Frag) (P : Addr) (q : Str) (ta : TE) : TE := fun σ H Q => ta σ H fun v H1 => ∃ ps, TabIs H1 P q ps ∧ ∀ ps' H2, TabNew H1 H2 P q ps ps' → rSK K v H2 Q
section
variable {X : Cx}
theorem pe_sortK {e : Expr} {ta : TE} {c P : Addr} {x : Str} {params : Arguments} {scope : Scope} {p p1 p2 p3 p4 p5 lpos kpos pos : Pos} {k : Nat} {n : Nat}
    (hg : Gl X "sorted") (hm : X.mg "sorted" = none) (hml : X.mg "len" = none) (hr : Room (n + 2) X.A) (ha : PE X e ta) (TB : TabB X.base X.mg c P) (hc : X.env.code = .ref c) (S : LenS scope x)
    (hdef : defaultsOf params X.env = ([], [])) (hcl : closureFor scope X.env = pure [])
    (hbind : ∀ (q : Str) (pm cv ctv : Value) (u : Value), bindArgs (PySem.W.kla_fn "<lambda>" q params (.Tuple [.Call (.Name "len" p1) [.Name x p2] [] p3, .Name x p4] k p5) scope [] pm cv ctv) ⟨[u], []⟩ = pure [(x, u)])
    (hs : starEach [e] X.env = [(false, eval e X.env)] := by rfl) :
    PE X (.Call (.Name "sorted" p) [e] [⟨some "key", .Lambda params (.Tuple [.Call (.Name "len" p1) [.Name x p2] [] p3, .Name x p4] k p5) scope lpos, kpos⟩] pos) (tSK X.K P (X.env.qual ++ "<lambda>") ta) := by
  refine ⟨fun pins s σ H Q I h => ?_⟩
  refine wpAny_Call_Name_kw (ld_blt (u := .builtin "sorted") I hg hm (by decide +kernel) ?_)
  have hb1 : backTo pos (starEach [e] X.env) = (false, eval e X.env) :: backTo pos (starEach [] X.env) := by rw [hs]; rfl
  refine callWith_kw ?_ hb1 (by rw [hs]; rfl)
  rw [hb1]
  refine Calls.spliced_cons (thn (ha.run pins s σ H _ I h) fun v1 s1 ⟨v, H1, I1, r1, ps, hT, q1⟩ => Calls.spliced_nil ?_)
  show wpAny _ _ (evalAll [(do let v ← eval _ X.env; standAt pos; pure v)]) _ _ s1
  refine wpAny_evalAll_cons (wpAny_bind (lam_new I1 TB hc hT hdef hcl fun f k pm ctv ps' H2 s2 I2 hn hf hrec => wpAny_bind (wpAny_standAt (wpAny_pure (wpAny_evalAll_nil ?_)))))
  obtain ⟨l, qs, rfl, hS, hq, hQ⟩ := q1 ps' H2 hn
  cases r1
  obtain ⟨its, rv, hl, hz⟩ := I2.list hS
  have each : PySem.W.EachIs (fun u q => RelV q.2 u) its qs := by
    have : ∀ (qs : List (List Int × V)) (us : List Value), Vals (qs.map (·.2)) us → PySem.W.EachIs (fun u q => RelV q.2 u) us qs := by
      intro qs
      induction qs with
      | nil => intro us r; cases r; exact .nil
      | cons q qs ih => intro us r; cases r with | cons h t => exact .cons h (ih _ t)
    exact this qs its rv
  have hmap : qs.map (fun q : List Int × V => (kI q.1).py) = (qs.map fun q => kI q.1).map Dt.py := by rw [List.map_map]; rfl
  obtain ⟨mb, hb2, hb3⟩ := I2.mod.blt
  have hun := hr.un
  refine PySem.W.sorted_key_data (b := false) (fun q : List Int × V => (kI q.1).py) hl.isList each ?_ ?_ (by simpa using hz) (fun q _ => ?_) (PyProof.Rows.ksk_s1 _ _) (fun _ => PyProof.Rows.ksk_l1 _ _) (fun _ => PyProof.Rows.ksk_t1 _ _) (fun u q hR hm h tk up => ?_) fun out c' h' tk up _ hD hlen ho => ?_
  · rw [hmap]
    intro d hd d' hd'
    obtain ⟨y, hy, rfl⟩ := List.mem_map.mp hd
    obtain ⟨z, hz, rfl⟩ := List.mem_map.mp hd'
    obtain ⟨y, _, rfl⟩ := List.mem_map.mp hy
    obtain ⟨z, _, rfl⟩ := List.mem_map.mp hz
    rw [alk_py]; exact alk_kI _ _
  · refine .inl fun d hd => ?_
    obtain ⟨y, _, rfl⟩ := List.mem_map.mp hd
    exact ⟨_, _, rfl⟩
  · have h1 := dep_py (kI q.1) (kI_np q.1)
    have h2 := kI_dep q.1
    omega
  · obtain ⟨p, e1, ht⟩ := hq q hm
    obtain ⟨vs, rvs, htup, hz2⟩ := I2.tuple ht
    rw [e1] at hR
    cases hR
    have hlen2 := rvs.length
    rw [List.length_map] at hlen2
    have ht2 : IsTup h p vs.toArray := by
      obtain ⟨o, a1, a2⟩ := htup
      exact ⟨o, up _ _ a1, a2⟩
    have rd : Reads h (.ref p) (.tuple (q.1.map PyData.int)) [] := by
      obtain ⟨o, a1, a2, m, a3⟩ := ht2
      exact .tuple a1 a2 a3 (reads_ints rvs)
    have := lam_len (prog := X.prog) (w := X.w) (A := X.A.in1.in1) (s := { s2 with heap := h, toks := tk }) (f := f) (p := p) (c' := k) (vs := vs) (ds := q.1.map PyData.int) S (by have := hr.dp; show X.A.depth < _; omega) (I2.nolimit.keeps up) ((I2.mod.glob.keeps I2.bk).keeps up) hml ((hb2.keeps I2.bk).keeps up)
      ((hb3 _ (by decide)).trans (by decide +kernel)) (up _ _ hf) (by obtain ⟨k2, o, fs, tq, ek, ho, hd, hq⟩ := hrec; exact ⟨k2, o, fs, tq, ek, up _ _ ho, hd, hq⟩) (fun u => hbind _ _ _ _ u) ht2 (by rw [← hlen2]; rw [List.length_map] at hz2; exact hz2) rd (by rw [List.length_map]; omega)
    rw [List.length_map] at this
    rw [kI_py]
    exact this
  · have es : qs.mergeSort (PySem.W.dataLe false fun q : List Int × V => (kI q.1).py) = qs.mergeSort fun a b => leD (kI a.1) (kI b.1) := by
      have := List.map_mergeSort (r := PySem.W.dataLe false fun q : List Int × V => (kI q.1).py) (s := fun a b : List Int × V => leD (kI a.1) (kI b.1)) (f := id) (l := qs) fun a _ b _ => ?_
      · simpa using this
      · show (!PySem.W.dataLt (kI b.1).py (kI a.1).py) = !ltD (kI b.1) (kI a.1)
        rw [ltD_py _ _ (alk_kI _ _)]
    rw [es] at ho
    have hlen2 : ((qs.mergeSort fun a b => leD (kI a.1) (kI b.1)).map (·.2)).length ≤ sizeLine := by
      rw [List.length_map, List.length_mergeSort]; simpa using hz
    have vals : ∀ {us : List Value} {qs : List (List Int × V)}, PySem.W.EachIs (fun u q => RelV q.2 u) us qs → Vals (qs.map (·.2)) us := by
      intro us qs h
      induction h with
      | nil => exact .nil
      | cons h _ ih => exact .cons h ih
    exact ⟨.ref _, upd H2 (s2.heap.objs.size + 1) (.lst ((qs.mergeSort fun a b => leD (kI a.1) (kI b.1)).map (·.2))), I2.laid (t' := tk) up (Nat.le_succ _) ⟨hlen2, out, c', vals ho, hD⟩, rfl, hQ _ (I2.hok.fresh (Nat.le_succ _))⟩
end
end DL

set_option Elab.async false
set_option linter.all false
set_option maxRecDepth 100000
set_option maxHeartbeats 4000000
namespace DL
open PySem L2 LamX PyProof.Rows
/-! ### a world of tables of code objects -/
def tabW : Wd where
  W := List (Addr × Str)
  rep := fun F H w => ∀ p ∈ w, tabRep F H p
  foot := fun w a => ∃ q, (a, q) ∈ w
  free := fun {F H w a} r ⟨q, h⟩ => by
    obtain ⟨f, ps, hp, _⟩ := r _ h
    exact ⟨f, _, hp⟩
  stay := fun {F H F' H' w} r s h p hp => by
    obtain ⟨f, ps, e, t, k⟩ := r p hp
    obtain ⟨g1, g2⟩ := h p.1 ⟨p.2, hp⟩
    refine ⟨g1, ps, g2.trans e, t, fun pos cv hc => ?_⟩
    obtain ⟨c, e1, e2⟩ := k pos cv hc
    exact ⟨c, e1, s _ _ e2⟩
abbrev UT : Wd := tpW tabW
def tabs (w : UT.W) : List (Addr × Str) := w.2
section
variable {K : PySem.W.Frag} {e : Ent UT} {F : Hp} {ρ : Rho} {w : UT.W} {σ : L2.St} {H : Hp}
theorem Rel.tabIs (R : Rel UT K e F ρ w σ H) {P : Addr} {q : Str} (hm : (P, q) ∈ tabs w) : ∃ ps, TabIs H P q ps ∧ F P = none := by
  obtain ⟨f, ps, e1, t, k⟩ := R.bas.rep.1 (P, q) hm
  refine ⟨ps, ⟨e1, t, fun pos cv hc => ?_⟩, f⟩
  obtain ⟨c, e2, e3⟩ := k pos cv hc
  exact ⟨c, e2, R.bas.fh _ _ e3⟩
theorem Rel.tabNew (R : Rel UT K e F ρ w σ H) {P : Addr} {q : Str} {ps ps' : Array Value} {H' : Hp} (hm : (P, q) ∈ tabs w) (hu : ∀ p ∈ tabs w, p.1 = P → p.2 = q) (hP : H P = some (.tbl ps)) (N : TabNew H H' P q ps ps') :
    ∃ F', Rel UT K e F' ρ w σ H' ∧ Same F F' := by
  have B := R.bas
  have fw : UT.foot w P := .inr ⟨q, hm⟩
  have fP : F P = none := (B.rep.1 (P, q) hm).1
  let F' : Hp := fun b => match H b with
    | none => H' b
    | some _ => F b
  have Fn : ∀ b, H b = none → F' b = H' b := fun b h => by show (match H b with | none => H' b | some _ => F b) = _; rw [h]
  have Fs : ∀ b o, H b = some o → F' b = F b := fun b o h => by show (match H b with | none => H' b | some _ => F b) = _; rw [h]
  have sf : Same F F' := fun b o h => (Fs b o (B.fh _ _ h)).trans h
  have hst : ∀ b o, b ≠ P → H b = some o → H' b = H b := fun b o hb h => (N.keep b o hb h).trans h.symm
  have neP : ∀ b o, F b = some o → b ≠ P := fun b o h z => by rw [z, fP] at h; cases h
  refine ⟨F', ⟨⟨fun b o h => ?_, ⟨fun p hp => ?_, fun T hT => ?_⟩, B.f.trans sf, fun b o h hf => ?_, fun b o h => ?_, fun b o h h0 => ?_, B.foot⟩, fun i x h => ?_, fun i xs h => ?_, R.inj, R.len⟩, sf⟩
  · cases c : H b with
    | none => rw [Fn b c] at h; exact h
    | some o2 =>
      rw [Fs b o2 c] at h
      exact N.keep b o (neP b o h) (B.fh _ _ h)
  · obtain ⟨f, qs, e1, t, k⟩ := B.rep.1 p hp
    refine ⟨(Fs _ _ e1).trans f, ?_⟩
    by_cases hb : p.1 = P
    · have eq := hu p hp hb
      rw [hb] at e1 ⊢
      rw [hP] at e1
      cases e1
      refine ⟨ps', N.tab, N.tri, fun pos cv hc => ?_⟩
      rcases N.code pos cv hc with z | ⟨c, e2, n1, n2⟩
      · obtain ⟨c, e2, e3⟩ := k pos cv z
        exact ⟨c, e2, sf _ _ e3⟩
      · exact ⟨c, e2, by rw [eq, Fn c n1]; exact n2⟩
    · refine ⟨qs, N.keep _ _ hb e1, t, fun pos cv hc => ?_⟩
      obtain ⟨c, e2, e3⟩ := k pos cv hc
      exact ⟨c, e2, sf _ _ e3⟩
  · obtain ⟨⟨f, L, ns, pos, rest, h1, h2, h3⟩, h4⟩ := B.rep.2 T hT
    have ne : T ≠ P := fun z => h4 (z ▸ ⟨q, hm⟩)
    exact ⟨⟨(Fs _ _ h1).trans f, L, ns, pos, rest, N.keep _ _ ne h1, sf _ _ h2, h3⟩, h4⟩
  · have ne : b ≠ P := fun z => by
      subst z
      rcases B.foot _ fw with k | k
      · exact hf k
      · rw [h] at k; cases k
    exact N.keep _ _ ne (B.keep _ _ h hf)
  · obtain ⟨o', h'⟩ := B.there _ _ h
    by_cases hb : b = P
    · exact ⟨_, by rw [hb]; exact N.tab⟩
    · exact ⟨o', N.keep _ _ hb h'⟩
  · cases c : H b with
    | none =>
      cases d : e.H b with
      | none => rfl
      | some u => obtain ⟨o', h'⟩ := B.there _ _ d; rw [c] at h'; cases h'
    | some o2 => rw [Fs b o2 c] at h; exact B.new _ _ h h0
  · obtain ⟨v, h1, h2⟩ := R.slot i x h
    exact ⟨v, h1, Din.mono sf _ _ h2⟩
  · obtain ⟨l, vs, h1, O, h3⟩ := R.own i xs h
    have ne : l ≠ P := fun z => O.nf (z ▸ fw)
    exact ⟨l, vs, h1, ⟨N.keep _ _ ne O.hl, (Fs _ _ O.hl).trans O.fl, O.nf, O.el⟩, DinL.mono sf _ _ h3⟩
end
/-! ### sorted(xs, key=lambda x: (len(x), x)), xs tuples of numbers -/
def gSortLen (x : Dt) (Q : List Dt → Prop) : Prop := ∃ gs : List (List Int), x = .lst (gs.map iD) ∧ Q ((sortI gs).map iD)
def dSortLen (P : Addr) (q : Str) (ta : TD UT) : TDL UT := fun ρ w Q => ta ρ w fun x w1 => ((P, q) ∈ tabs w1 ∧ ∀ p ∈ tabs w1, p.1 = P → p.2 = q) ∧ gSortLen x fun z => Q z w1
theorem ev_sortLen {P : Addr} {q : Str} {ta : TD UT} {ρ : Rho} {w : UT.W} {Q : List Dt → UT.W → Prop} : dSortLen P q ta ρ w Q = ta ρ w fun x w1 => ((P, q) ∈ tabs w1 ∧ ∀ p ∈ tabs w1, p.1 = P → p.2 = q) ∧ gSortLen x fun z => Q z w1 := rfl
theorem DinL.iPairs {K : PySem.W.Frag} {F : Hp} : ∀ {gs : List (List Int)} {vs : List V}, DinL K F (gs.map iD) vs → ∃ qs : List (List Int × V), qs.map (·.1) = gs ∧ qs.map (·.2) = vs ∧ ∀ q ∈ qs, Din K F (iD q.1) q.2
  | [], vs, h => by
    cases (show vs = [] from h)
    exact ⟨[], rfl, rfl, fun q hq => by cases hq⟩
  | g :: gs, vs, ⟨u, us, h1, h2, h3⟩ => by
    subst h1
    obtain ⟨qs, e1, e2, h⟩ := DinL.iPairs h3
    exact ⟨(g, u) :: qs, by rw [List.map_cons, e1], by rw [List.map_cons, e2], fun q hq => (List.mem_cons.mp hq).elim (fun e => e ▸ h2) (h q)⟩
theorem DinL.of_iPairs {K : PySem.W.Frag} {F : Hp} : ∀ (qs : List (List Int × V)), (∀ q ∈ qs, Din K F (iD q.1) q.2) → DinL K F ((qs.map (·.1)).map iD) (qs.map (·.2))
  | [], _ => rfl
  | q :: qs, h => ⟨_, _, rfl, h q (List.mem_cons_self ..), DinL.of_iPairs qs fun r hr => h r (List.mem_cons_of_mem _ hr)⟩
section
variable {X : Cx} {a : Expr} {ta : TD UT}
theorem df_sortLen {c P : Addr} {x : Str} {params : Arguments} {scope : Scope} {p p1 p2 p3 p4 p5 lpos kpos pos : Pos} {k : Nat} {n : Nat}
    (hg : Gl X "sorted") (hm : X.mg "sorted" = none) (hml : X.mg "len" = none) (hr : Room (n + 2) X.A) (ha : DB X UT a ta) (TB : TabB X.base X.mg c P) (hc : X.env.code = .ref c) (S : LenS scope x)
    (hdef : defaultsOf params X.env = ([], [])) (hcl : closureFor scope X.env = pure [])
    (hbind : ∀ (q : Str) (pm cv ctv : Value) (u : Value), bindArgs (PySem.W.kla_fn "<lambda>" q params (.Tuple [.Call (.Name "len" p1) [.Name x p2] [] p3, .Name x p4] k p5) scope [] pm cv ctv) ⟨[u], []⟩ = pure [(x, u)])
    (hs : starEach [a] X.env = [(false, eval a X.env)] := by rfl) :
    DF X UT (.Call (.Name "sorted" p) [a] [⟨some "key", .Lambda params (.Tuple [.Call (.Name "len" p1) [.Name x p2] [] p3, .Name x p4] k p5) scope lpos, kpos⟩] pos) (dSortLen P (X.env.qual ++ "<lambda>") ta) :=
  ⟨fun e => (pe_sortK hg hm hml hr (ha.run e) TB hc S hdef hcl hbind hs).weak fun σ H Q ⟨F, ρ, w, Q', R, q, kk⟩ => ⟨F, ρ, w, _, R, q, fun y v F1 w1 H1 ⟨⟨hm, hu⟩, gs, ey, q1⟩ R1 s1 b1 => by
    subst ey
    obtain ⟨ps, tis, fP⟩ := R1.tabIs hm
    refine ⟨ps, tis, fun ps' H2 N => ?_⟩
    obtain ⟨F2, R2, s2⟩ := R1.tabNew hm hu tis.1 N
    obtain ⟨l, vs, e1, h1, d1⟩ := R1.bor b1
    subst e1
    obtain ⟨qs, e2, e3, hq⟩ := DinL.iPairs d1
    have nl : l ≠ P := fun z => by have z2 := tis.1; rw [← z, h1] at z2; cases z2
    refine ⟨l, qs, rfl, by rw [e3]; exact SqL.of (N.keep _ _ nl h1), fun z hz => ?_, fun l' hl' => ?_⟩
    · obtain ⟨p, us, e4, h4, d4⟩ := hq z hz
      have := d4.ints
      subst this
      exact ⟨p, e4, SqT.mono (s2.trans R2.bas.fh) h4⟩
    · obtain ⟨R3, f3⟩ := R2.mine hl' ((qs.mergeSort fun a b => leD (kI a.1) (kI b.1)).map (·.2))
      refine kk _ l' _ F2 w1 _ q1 R3 (s1.trans s2) f3 ?_
      have := DinL.of_iPairs (K := X.K) (F := F2) (qs.mergeSort fun a b => leD (kI a.1) (kI b.1)) fun z hz => Din.mono s2 _ _ (hq z (List.mem_mergeSort.mp hz))
      rw [show (qs.mergeSort fun a b => leD (kI a.1) (kI b.1)).map (·.1) = sortI gs from by rw [← e2]; exact List.map_mergeSort fun _ _ _ _ => rfl] at this
      exact this⟩⟩
end
end DL

set_option Elab.async false
set_option linter.all false
set_option maxRecDepth 100000
set_option maxHeartbeats 4000000
namespace DL
open PySem L2 LamX PyProof.Rows
/-! ### the head's facts, and the tables of the defs that make lambdas -/
def isTab : Option Obj → Bool
  | some ⟨.none, none, .fields ⟨[]⟩, ⟨[]⟩⟩ => true
  | _ => false
theorem isTab_ok {o : Option Obj} (h : isTab o = true) : o = some { cls := .none, data := .fields #[] } := by
  unfold isTab at h
  split at h
  · rfl
  · cases h
def tabsIn (K : PySem.W.Frag) (lam : List Str) : List (Addr × Addr) := lam.filterMap fun x => PySem.W.tabIn K x
/-- the part of the heap without the tables -/
def dropT (K : PySem.W.Frag) (ts : List (Addr × Addr)) : PySem.W.Frag := K.filter fun p => !(ts.any fun t => t.2 == p.1)
def tabB (K K' : PySem.W.Frag) (x : Str) : Bool := match PySem.W.tabIn K' x with
  | some (c, P) => PySem.W.codeHdIn K' c P && (isTab (K.lookup P) && (K'.lookup P).isNone)
  | none => false
structure TabF (K : PySem.W.Frag) (h : Heap) (x : Str) (c P : Addr) : Prop where
  at_ : PySem.W.tabIn K x = some (c, P)
  hd : PySem.W.CodeHd h c P
  tab : h.get? P = some { cls := .none, data := .fields #[] }
  out : K.lookup P = none
theorem lookup_filter {f : Addr × Obj → Bool} {a : Addr} {o : Obj} (hf : ∀ o o', f (a, o) = f (a, o')) : ∀ {K : PySem.W.Frag}, (K.filter f).lookup a = some o → K.lookup a = some o
  | [], h => by cases h
  | p :: K, h => by
    obtain ⟨b, ob⟩ := p
    by_cases e : a = b
    · subst e
      cases c : f (a, ob) with
      | true =>
        rw [List.filter_cons_of_pos c] at h
        simpa [List.lookup] using h
      | false =>
        rw [List.filter_cons_of_neg (by rw [c]; exact Bool.false_ne_true)] at h
        have : ∀ {K : PySem.W.Frag}, (K.filter f).lookup a = none := by
          intro K
          induction K with
          | nil => rfl
          | cons q K ih =>
            obtain ⟨b2, o2⟩ := q
            by_cases e : a = b2
            · subst e
              rw [List.filter_cons_of_neg (by rw [hf o2 ob, c]; exact Bool.false_ne_true)]; exact ih
            · cases c2 : f (b2, o2) with
              | true => rw [List.filter_cons_of_pos c2]; simp only [List.lookup, beq_false_of_ne e]; exact ih
              | false => rw [List.filter_cons_of_neg (by rw [c2]; exact Bool.false_ne_true)]; exact ih
        rw [this] at h; cases h
    · have e2 : (a == b) = false := beq_false_of_ne e
      cases c : f (b, ob) with
      | true =>
        rw [List.filter_cons_of_pos c] at h
        simp only [List.lookup, e2] at h ⊢
        exact lookup_filter hf h
      | false =>
        rw [List.filter_cons_of_neg (by rw [c]; exact Bool.false_ne_true)] at h
        simp only [List.lookup, e2]
        exact lookup_filter hf h
theorem dropT_in {K : PySem.W.Frag} {ts : List (Addr × Addr)} {h : Heap} (X : K.In h) : (dropT K ts).In h := fun a o e => X a o (lookup_filter (fun _ _ => rfl) e)
theorem tabB_ok {K K' : PySem.W.Frag} {h : Heap} {x : Str} (X : K.In h) (X' : K'.In h) (t : tabB K K' x = true) : ∃ c P, TabF K' h x c P := by
  unfold tabB at t
  cases e : PySem.W.tabIn K' x with
  | none => rw [e] at t; cases t
  | some cp =>
    obtain ⟨c, P⟩ := cp
    rw [e] at t
    obtain ⟨t1, t2⟩ := Bool.and_eq_true_iff.mp t
    obtain ⟨t2, t3⟩ := Bool.and_eq_true_iff.mp t2
    refine ⟨c, P, e, PySem.W.codeHd_of_K X' t1, X _ _ (isTab_ok t2), by simpa using t3⟩
abbrev AlT : Type := He.AlD × Bool
def fragT (n : Nat) (lam : List Str) (g : Addr → Option Obj) : PySem.W.Frag := dropT (He.frG g (He.asD g n)) (tabsIn (He.frG g (He.asD g n)) lam)
def obsT (n : Nat) (lam : List Str) (fa : List He.Fa) (fn : List He.DefD) (ex : PySem.W.Frag → Bool) (g : Addr → Option Obj) : AlT := (He.obsD fa fn (fragT n lam g), ex (fragT n lam g) && lam.all fun x => tabB (He.frG g (He.asD g n)) (fragT n lam g) x)
def hookT (n : Nat) (lam : List Str) (fa : List He.Fa) (fn : List He.DefD) (ex : PySem.W.Frag → Bool) : PySem.W.Hook where
  α := AlT
  obs := fun s => obsT n lam fa fn ex s.heap.get?
  val := fun _ => (He.valD fn, true)
  says := fun _ h => ∃ K : PySem.W.Frag, K.In h ∧ He.SaysD fa fn K ∧ ex K = true ∧ ∀ x ∈ lam, ∃ c P, TabF K h x c P
  of := fun _ s e => by
    obtain ⟨e2, e3⟩ := Bool.and_eq_true_iff.mp (show (ex (fragT n lam s.heap.get?) && lam.all fun x => tabB (He.frG s.heap.get? (He.asD s.heap.get? n)) (fragT n lam s.heap.get?) x) = true from congrArg (fun z : AlT => z.2) e)
    exact ⟨fragT n lam s.heap.get?, dropT_in He.frG_in, congrArg (fun z : AlT => z.1) e, e2, fun x hx => tabB_ok He.frG_in (dropT_in He.frG_in) (List.all_eq_true.mp e3 x hx)⟩
  keeps := fun _ _ _ ⟨K, hK, c, e, t⟩ k => ⟨K, PySem.W.Frag.In.keeps hK k, c, e, fun x hx => by
    obtain ⟨c, P, t⟩ := t x hx
    exact ⟨c, P, t.at_, t.hd.keeps k, k _ _ t.tab, t.out⟩⟩
theorem obsT_eq {n : Nat} {lam : List Str} {fa : List He.Fa} {fn : List He.DefD} {ex : PySem.W.Frag → Bool} {g : Addr → Option Obj} {s : Shared} (h : ∀ a, g a = s.heap.get? a) : obsT n lam fa fn ex g = (hookT n lam fa fn ex).obs s := by
  have e : g = s.heap.get? := funext h
  rw [e] <;> rfl
/-- the code object of such a def -/
theorem TabF.code {K : PySem.W.Frag} {h : Heap} {x qual : Str} {c P f : Addr} {params : Arguments} {body : List Stmt} {scope : Scope} {dvs : List V} {kws : List (Str × V)} {fd : FuncData} (t : TabF K h x c P) (hn : PySem.W.nsIn K mainGlobals x = some (some (.ref f)))
    (F : FunD K x qual params body scope dvs kws f fd) : fd.code = .ref c := by
  obtain ⟨oc, od, dV, kV, doc, pm, an, cdv, ct, osl, e, l, _⟩ := F.ex
  have h1 := t.at_
  unfold PySem.W.tabIn at h1
  rw [hn] at h1
  simp only [l] at h1
  split at h1
  · rename_i c2 hc
    split at h1
    · split at h1
      · cases h1; exact hc
      · cases h1
    · cases h1
  · cases h1
/-- the tables are apart -/
def apartT (K : PySem.W.Frag) (lam : List Str) : Bool := decide ((tabsIn K lam).map (·.2)).Nodup
/-! ### a def whose code object is known -/
theorem ok_defC {U : Wd} {P : Program} {wd : World} {K : PySem.W.Frag} {mg : Str → Option Value} {base : Heap} {x qual : Str} {sd : Stmt} {f c : Addr} {fd : FuncData} {N ps : List Str} {k : Nat} {cc : Ct U} {td : TDS U} (F : Fun K x qual sd f fd) (hcd : fd.code = .ref c) (S : FnScope N ps (defScope sd))
    (hb : ∀ (cdv : Value) (A : Around) (outer : List Env) (s : Shared) (H : Hp) (E : XK), cdv = .ref c → Room k (A.deeper (PyProof.Rows.envOfC qual (defScope sd) s.heap.objs.size f cdv)) → DSs (cxOf CX0 P wd K mg base N qual (defScope sd) f cdv A outer s H E).nox U (defBody sd) td)
    (hl : ∀ ds w Q, cc ds w Q → ds.length = ps.length)
    (hq : ∀ ds w Q, cc ds w Q → td { nx := fun _ w' => Q .non w', rt := Q } (startR N ds) w) : FnOk P wd K mg base CX0 (k + 1) f fd ps (spOf U K cc) := by
  have hpl : ps.length ≤ N.length := by have := congrArg List.length S.pre; rw [List.length_take] at this; omega
  obtain ⟨oc, od, kV, doc, pm, an, cdv, ct, osl, rfl, lk, hcd2⟩ := F.ex
  have hcv : cdv = .ref c := hcd
  refine fn_of lk hcd2 S (fun vs H Q E h => ?_) fun A outer s H vs Q E hr h => ?_
  · obtain ⟨F0, w, ds, Qd, _, _, d, c, _⟩ := h
    rw [d.length]; exact hl _ _ _ c
  · obtain ⟨F0, w, ds, Qd, fh, rp, d, c, k'⟩ := h
    have dl := hl _ _ _ c
    refine ⟨_, ((hb cdv A outer s H E hcv hr).run ⟨F0, H, w⟩).nox, F0, startR N ds, w, _, rel_start fh rp d (by omega), hq ds w _ c, ?_⟩
    exact ⟨fun F' ρ' w' σ' H' q R s => k' .non .non F' w' H' q R.bas rfl, fun x v F' w' H' q B s d => k' x v F' w' H' q B d, fun F' ρ' w' σ' H' q R s => q.elim, fun F' ρ' w' σ' H' q R s => q.elim⟩
/-- the list sorted, where a statement returns it or goes through it -/
def sortX : Stmt → Expr
  | .Return (some e) _ => e
  | .For _ e _ _ _ => e
  | _ => .Constant .none 0 ⟨0, 0, 0, 0⟩
theorem tab_rep0 (T : List (Addr × Str)) : ∀ F H, (∀ P ∈ T.map (·.1), F P = none ∧ H P = some (.tbl #[])) → tabW.rep F H T := fun F H h p hp => by
  obtain ⟨h1, h2⟩ := h p.1 (List.mem_map.mpr ⟨p, hp, rfl⟩)
  exact ⟨h1, #[], h2, True.intro, fun pos cv hc => by
    have z : codeAmong pos [] = some cv := hc
    simp [codeAmong] at z⟩
theorem tab_foot0 (T : List (Addr × Str)) : ∀ a, tabW.foot T a → a ∈ T.map (·.1) := fun a ⟨q, h⟩ => List.mem_map.mpr ⟨_, h, rfl⟩
/-! ### the law, the tables empty at its start -/
def spLawT (Ps : List Addr) (K : PySem.W.Frag) : Sp := fun vs H Q _ => ∃ (a : Addr) (ns : List Int), vs = [.ref a] ∧ SqL K H a (ns.map V.int) ∧ ns.length ≤ 63 ∧ (∀ P ∈ Ps, H P = some (.tbl #[])) ∧ ∀ H', Q (.bl true) H'
theorem ok_lawT {Vw : Wd} {P : Program} {wd : World} {K : PySem.W.Frag} {mg : Str → Option Value} {base : Heap} {sd : Stmt} {f : Addr} {fd : FuncData} {N : List Str} {k : Nat} {td : TDS (tpW Vw)} {st : Stmt} {rest : List Stmt} (Ps : List Addr) (v0 : Vw.W)
    (hv : ∀ F H, (∀ P ∈ Ps, F P = none ∧ H P = some (.tbl #[])) → Vw.rep F H v0) (hvf : ∀ a, Vw.foot v0 a → a ∈ Ps)
    (F : Fun K "law" "law" sd f fd) (S : FnScope ("script" :: "tape" :: N) ["script"] (defScope sd)) (hbd : defBody sd = st :: rest)
    (hst : ∀ (cdv : Value) (A : Around) (outer : List Env) (s : Shared) (H : Hp) (E : XK), PS (cxOf CX0 P wd K mg base ("script" :: "tape" :: N) "law" (defScope sd) f cdv A outer s H E).nox st
      (tAsg (tLst (tCons (tCB (fun xs H Q => ∃ p ys, xs = [.ref p] ∧ (SqL K H p ys ∨ SqT K H p ys) ∧ ∀ l, H l = none → Q (.ref l) (upd H l (.lst ys))) (tCons (tVar 0) tNil)) (tCons (tC (.int 0)) (tCons (tC (.int 0)) tNil)))) (gName 1)))
    (hb : ∀ (cdv : Value) (A : Around) (outer : List Env) (s : Shared) (H : Hp) (E : XK), Room k (A.deeper (PyProof.Rows.envOfC "law" (defScope sd) s.heap.objs.size f cdv)) → DSs (cxOf CX0 P wd K mg base ("script" :: "tape" :: N) "law" (defScope sd) f cdv A outer s H E).nox (tpW Vw) rest td)
    (hq : ∀ T, td { nx := fun _ _ => False, rt := fun x _ => x = .bl true } (none :: some (.d (.ref T)) :: N.map fun _ => none) (mkW T v0)) : FnOk P wd K mg base CX0 (k + 1) f fd ["script"] (spLawT Ps K) := by
  refine F.ok S (fun vs H Q E h => ?_) (fun cdv A outer s H vs Q E hr h => ?_)
  · obtain ⟨a, ns, rfl, _⟩ := h; rfl
  · obtain ⟨a, ns, rfl, hS, hlen, hPs, q⟩ := h
    rw [hbd]
    refine ⟨_, pss_cons (hst cdv A outer s H E) (hb cdv A outer s H E hr).x, ?_⟩
    refine ⟨_, rfl, a, _, rfl, .inl hS, fun l hl => ⟨by show 3 ≤ sizeLine; decide, fun T hT => ?_⟩⟩
    have lT : T ≠ l := fun z => by rw [z, upd_same] at hT; cases hT
    have Hl : ∀ P ∈ Ps, P ≠ l := fun P hP z => by have := hPs P hP; rw [z, hl] at this; cases this
    have HT : ∀ P ∈ Ps, P ≠ T := fun P hP z => by rw [← z, upd_ne (Hl P hP), hPs P hP] at hT; cases hT
    let F0 : Hp := fun b => if b = l then some (.lst (ns.map V.int)) else none
    have F0l : F0 l = some (.lst (ns.map V.int)) := if_pos rfl
    have F0n : ∀ b, b ≠ l → F0 b = none := fun b h => if_neg h
    let H2 : Hp := upd (upd H l (.lst (ns.map V.int))) T (.lst [.ref l, .int 0, .int 0])
    have fh : Same F0 H2 := fun b o h => by
      by_cases hb : b = l
      · subst hb
        rw [F0l] at h; cases h
        exact (upd_ne (Ne.symm lT)).trans upd_same
      · rw [F0n b hb] at h; cases h
    have rp : (tpW Vw).rep F0 H2 (some T, v0) := ⟨hv F0 H2 fun P hP => ⟨F0n P (Hl P hP), by show upd (upd H l _) T _ P = _; rw [upd_ne (HT P hP), upd_ne (Hl P hP)]; exact hPs P hP⟩, fun T' h => by
      cases h
      exact ⟨⟨F0n T lT, l, ns, 0, 0, upd_same, F0l, Int.le_refl 0⟩, fun z => HT T (hvf T z) rfl⟩⟩
    have none_at : ∀ (i : Nat) (o : Slot), (none :: some (.d (.ref T)) :: N.map fun _ => none)[i]? = some (some o) → i = 1 ∧ o = .d (.ref T) := fun i o h => by
      match i, h with
      | 0, h => cases h
      | 1, h => cases h; exact ⟨rfl, rfl⟩
      | i + 2, h =>
        have h' : (N.map fun _ => (none : Option Slot))[i]? = some (some o) := h
        rw [List.getElem?_map] at h'
        cases q : N[i]? with
        | none => rw [q] at h'; cases h'
        | some y => rw [q] at h'; cases h'
    refine ⟨⟨F0, H2, (some T, v0)⟩, F0, none :: some (.d (.ref T)) :: N.map fun _ => none, (some T, v0), { nx := fun _ _ => False, rt := fun x _ => x = .bl true }, ⟨Bas.start fh rp, fun i x h => ?_, fun i xs h => ?_, fun i j xs ys m h => ?_, ?_⟩, hq T, ⟨fun _ _ _ _ _ z => z.elim, fun x v F' w' H' e B s d => ?_, fun _ _ _ _ _ z => z.elim, fun _ _ _ _ _ z => z.elim⟩⟩
    · obtain ⟨rfl, e⟩ := none_at i _ h
      cases e
      exact ⟨.ref T, rfl, rfl⟩
    · obtain ⟨_, e⟩ := none_at i _ h; cases e
    · obtain ⟨_, e⟩ := none_at i _ h; cases e
    · simp [L2.start]
    · subst e
      cases (show v = .bl true from d)
      exact q H'
end DL

set_option Elab.async false
set_option linter.all false
set_option maxRecDepth 100000
set_option maxHeartbeats 4000000
/-! ### an exception that is kept, tracked as an object -/
namespace L2
open PySem PySem.Spec PyProof.Rows
theorem exV_ok {P : Program} {w : World} {H : Hp} {h : Heap} {a C : Addr} {oe : Obj} {vs : Array Value} (e : h.get? a = some oe) (z : Zc (.ref C) none oe) (d : oe.data = .fields vs) : ObjOk P w H h a (ExV C a) :=
  ⟨⟨oe, vs, e, z, d⟩, ⟨oe, e⟩, fun _ _ ⟨o, v, q, r⟩ k => ⟨o, v, k o q, r⟩⟩
section
variable {X : Cx} {pins : List (Addr × Obj)} {σ : St} {H : Hp} {s : Shared}
theorem HOk.adopt {P : Program} {w : World} {h : Heap} {a : Addr} {o : HO} (x : HOk P w H h) (hn : H a = none) (new : ObjOk P w (upd H a o) h a o) : HOk P w (upd H a o) h := fun b u e => by
  by_cases hb : b = a
  · subst hb
    rw [upd_same] at e
    cases e
    exact new
  · rw [upd_ne hb] at e
    exact (x b u e).stay (fun c v _ q => q) (fun c q => by rw [upd_ne (ne_of_none q hn)]; exact q) fun c xs q => by rw [upd_ne (ne_of_none q hn)]; exact q
/-- the exception's object, not there at the def's entry, is tracked -/
theorem Inv.adopt {a C : Addr} {oe : Obj} {vs : Array Value} (I : Inv X pins σ H s) (ha : s.heap.get? a = some oe) (hz : Zc (.ref C) none oe) (hd : oe.data = .fields vs) (na : H a = none) (n0 : X.s_0.heap.get? a = none) (nL : a ≠ X.env.locals)
    (nP : ∀ p ∈ X.pn ++ pins, p.1 ≠ a) : Inv X pins σ (upd H a (ExV C a)) s := by
  have ne0 : ∀ b o, X.s_0.heap.get? b = some o → b ≠ a := fun b o e z => by
    rw [z, n0] at e
    cases e
  refine ⟨I.ok, I.os, I.bare, ⟨I.base.keep, I.base.slot, fun b o e n hq => ?_, I.base.there, fun b xs e => ?_, fun b o u e => ?_, fun b ps e => ?_⟩, I.loc, I.cell, ?_, fun x c e => ?_, fun p hp => ?_, I.hok.adopt na (exV_ok ha hz hd), I.len⟩
  · rw [upd_ne (ne0 b o e)]
    exact I.base.free b o e n hq
  · have q := I.base.tups b xs e
    rw [upd_ne (ne_of_none q na)]
    exact q
  · have q := I.base.frzs b o u e
    rw [upd_ne (ne_of_none q na)]
    exact q
  · obtain ⟨m, q⟩ := I.base.tbls b ps e
    exact ⟨m, by rw [upd_ne (ne_of_none q na)]; exact q⟩
  · rw [upd_ne (Ne.symm nL)]
    exact I.free
  · rw [upd_ne]
    · exact I.freeC x c e
    · rintro rfl
      obtain ⟨v, o, ho, hc⟩ := I.cell x c e
      rw [ha] at ho
      cases ho
      rw [hd] at hc
      cases hc
  · obtain ⟨h1, h2, h3⟩ := I.pin p hp
    exact ⟨h1, by rw [upd_ne (nP p hp)]; exact h2, h3⟩
theorem Inv.suite0 (I : Inv X pins σ H s) (a : Addr) : Inv (X.suite a (X.pn ++ pins)) [] σ H s :=
  ⟨I.ok.suite _ _, I.os, I.bare, I.base, I.loc, I.cell, I.free, I.freeC, fun p hp => I.pin p (by rw [List.append_nil] at hp; exact hp), I.hok, I.len⟩
theorem Inv.unsuite0 {a : Addr} {pn' : List (Addr × Obj)} (I : Inv (X.suite a (X.pn ++ pins)) pn' σ H s) (ok : X.Ok) : Inv X pins σ H s :=
  ⟨ok, I.os, I.bare, I.base, I.loc, I.cell, I.free, I.freeC, fun p hp => I.pin p (List.mem_append_left _ hp), I.hok, I.len⟩
end
/-- 'except x as n', n's object tracked in the suite and behind it -/
def wV (K : PySem.W.Frag) (c : Value) (i : Nat) (ts : Addr → Addr → TS) (Wout : WX) (D : Ends) : WX := fun cls d σ H =>
  ∃ C b, cls = .ref C ∧ d = none ∧ PySem.W.exmOne K (.ref C) c = some b ∧ (b = true → ∀ a, H a = none → ts a C { nx := fun σ' H' => D.nx (σ'.set i none) H', rt := D.rt, bk := fun σ' H' => D.bk (σ'.set i none) H', ct := fun σ' H' => D.ct (σ'.set i none) H' } (σ.set i (some (.ref a))) (upd H a (ExV C a))) ∧
    (b = false → Wout cls d σ H)
section
variable {X : Cx} {x n : Str} {c : Value} {i : Nat} {body suite : List Stmt} {b₀ : Stmt} {np pos pos' : Pos} {tb : WX → TS} {ts : Addr → Addr → TS} {Wout : WX}
theorem ps_tryV (hex : X.ex = []) (hs : X.stack = X.env :: X.outer) (hf : X.env.frame = some X.env.locals) (hN : X.N.Nodup) (hi : X.N[i]? = some n) (hln : X.env.kindOf n = some .local) (hc : Names X x c) (tk : Takes X Wout)
    (hb : ∀ (W : WX) (pn : List (Addr × Obj)) (xe : Value → Shared → Prop), Takes (X.tr pn xe) W → PassesOwn (model X.prog X.w) X.A X.env xe → PSs (X.tr pn xe) body (tb W))
    (hsu : ∀ (a C : Addr) (pn : List (Addr × Obj)), PSs (X.suite a pn) (b₀ :: suite) (ts a C)) :
    PS X (.Try body [.ExceptHandler (some (.Name x np)) (some n) (b₀ :: suite) pos'] [] [] pos) (fun D σ H => tb (wV X.K c i ts Wout D) D σ H) := by
  refine ⟨fun pins s σ H D I h => ?_⟩
  have ok := I.ok
  have hfr : X.A.frames = some (X.env :: X.outer) := by rw [ok.frames, hs]
  have hloc : Loc X.env.scope n := .inl hln
  refine wpAny_Try_except ?_
  refine wpAny_mono ((hb (wV X.K c i ts Wout D) (X.pn ++ pins) (fun e s₁ => wpAny (model X.prog X.w) X.A (noteFrame e X.env) (fun _ s₂ => wpAny (model X.prog X.w) X.A (setFlight e none) (fun _ s₃ =>
    wpAny (model X.prog X.w) X.A (handleBy e X.env [.ExceptHandler (some (.Name x np)) (some n) (b₀ :: suite) pos']) (SP X pins D) X.xe s₃) X.xe s₂) X.xe s₁) (fun u s' xx => ?_) PassesOwn.looking).run [] s σ H D (I.toTry _) h) (fun f s1 hsp => ?_) (fun e s1 he => he)
  · -- the catch
    obtain ⟨a, B, sI, pins', σ', H', cls, d, rfl, J', nb, up, sky, na, os, ag, C, b, rfl, rfl, hb1, hyes, hno⟩ := xx
    have J : Inv X pins σ' H' sI := J'.ofTry ok
    have sky' : Sky B (X.env :: X.outer) a (Zc (.ref C) none) X.env.locals s'.heap := by rw [← hs]; exact sky
    show wpAny (model X.prog X.w) X.A (noteFrame (.ref a) X.env) _ _ _
    refine Sky.land Zc.steady hfr hf sky' fun h3 fl3 up3 => ?_
    have J3 : Inv X pins σ' H' { s' with heap := h3 } := J.landed nb fl3.1 (up.trans up3) os ag
    obtain ⟨oe3, vs3, he3, hz3, hd3⟩ := fl3.there
    have notFr : ∀ {h : Heap} {o : Obj} {vs : Array Value}, h.FunFrames B (X.env :: X.outer) → h.get? a = some o → o.data = .fields vs → a ∉ frs (X.env :: X.outer) := fun {h o vs} ff e dd hm => by
      obtain ⟨_, o', e', hnf⟩ := ff.mem hm
      rw [e] at e'; cases e'
      exact hnf _ dd
    have nfr := notFr fl3.2.2.1 he3 hd3
    have nL : a ≠ X.env.locals := fun z => nfr (List.mem_filterMap.mpr ⟨X.env, List.mem_cons_self, by rw [hf, z]⟩)
    have nF : a ∉ X.fs := fun hm => by
      obtain ⟨e, he, q⟩ := List.mem_filterMap.mp hm
      exact nfr (List.mem_filterMap.mpr ⟨e, List.mem_cons_of_mem _ he, q⟩)
    have Ba : B.get? a = none := fl3.2.1
    have n0 : X.s_0.heap.get? a = none := by
      cases e : X.s_0.heap.get? a with
      | none => rfl
      | some o =>
        obtain ⟨o', e1⟩ := J.base.there a o e (by rw [hex]; exact fun z => nomatch z)
        have z := nb a o' e1 (by rw [hs]; exact nfr)
        rw [Ba] at z; cases z
    have nP : ∀ p ∈ X.pn ++ pins, p.1 ≠ a := fun p hp z => by
      obtain ⟨h1, h2, h3', h4, h5⟩ := J.pin p hp
      have z2 := nb p.1 _ h1 (by rw [z, hs]; exact nfr)
      rw [z, Ba] at z2; cases z2
    have S3 := J3.suite he3 hd3 na nL nF
    refine wpAny_handleBy_cons (codeAny_handlers_test ?_) (by intro q; cases q)
    have LT : PySem.W.Looks (model X.prog X.w) h3 (typeOf (.ref a)) (.ref C) := fun A Q E s k q => wpAny_typeOf_ref (k _ _ he3) (by rw [hz3.1]; exact q)
    have LM := PySem.W.exm_one (M := model X.prog X.w) (J3.kIn) LT hb1
    have test : ∀ {Q : Value → Shared → Prop} {E : Value → Shared → Prop}, Q c { s' with heap := h3 } → wpAny (model X.prog X.w) (X.A.mark (some (.ref a))) (eval (.Name x np) X.env) Q E { s' with heap := h3 } := fun {Q E} q => by
      obtain ⟨hg, hdbg, hm | ⟨hm, hv, hnn⟩⟩ := hc
      · exact ld_glob (X := X.suite a ((a, oe3) :: (X.pn ++ pins))) S3 hg hm q hdbg
      · exact ld_blt (X := X.suite a ((a, oe3) :: (X.pn ++ pins))) S3 hg hm hv q hnn hdbg
    refine test (LM.here ?_)
    cases b with
    | true =>
      refine codeAny_handlers_suite_as ?_
      refine HandSPX.lands_againZ fl3 fun h4 fl4 up4 => ?_
      have J4 : Inv X pins σ' H' { s' with heap := h4 } := J.landed nb fl4.1 ((up.trans up3).trans up4) os ag
      obtain ⟨oe4, vs4, he4, hz4, hd4⟩ := fl4.there
      have S4 := (J4.adopt he4 hz4 hd4 na n0 nL nP).suite0 a
      refine store_ok (X := X.suite a (X.pn ++ pins)) (v := .ref a) S4 hN hi hloc rfl (fun s5 S5 => ?_) (.inr hln)
      refine wpAny_mono ((hsu a C (X.pn ++ pins)).run [] s5 _ _ _ S5 (hyes rfl a na)) (fun f s6 hsp => ?_) (fun _ _ z => False.elim z)
      have end_ : ∀ {σ6 : St} {H6 : Hp} {Q : Shared → Prop}, Inv (X.suite a (X.pn ++ pins)) [] σ6 H6 s6 → (∀ s7, Inv X pins (σ6.set i none) H6 s7 → Q s7) →
          wpAny (model X.prog X.w) X.A (do bindName X.env n .none; unbindBehindTheSuite X.env n pos') (fun _ s7 => Q s7) X.xe s6 := fun {σ6 H6 Q} S6 hq => gone_ok (S6.unsuite0 ok) hN hi hln hq
      cases f with
      | next =>
        obtain ⟨σ6, H6, S6, q6⟩ := hsp
        exact end_ S6 fun s7 J7 => ⟨_, _, J7, q6⟩
      | brk =>
        obtain ⟨σ6, H6, S6, q6⟩ := hsp
        exact end_ S6 fun s7 J7 => ⟨_, _, J7, q6⟩
      | cont =>
        obtain ⟨σ6, H6, S6, q6⟩ := hsp
        exact end_ S6 fun s7 J7 => ⟨_, _, J7, q6⟩
      | ret u =>
        obtain ⟨v6, σ6, H6, S6, r6, q6⟩ := hsp
        exact end_ S6 fun s7 J7 => ⟨_, _, _, J7, r6, q6⟩
    | false =>
      show wpAny _ X.A (handleBy (.ref a) X.env []) _ _ _
      refine wpAny_handleBy_nil ?_
      obtain ⟨k1, k2, k3, oe, vs, T, oT, ts', he, hz, hd, h1, hr⟩ := id fl3
      unfold PySem.passOn
      refine wpAny_bind (wpAny_field he hd h1 ?_)
      rw [if_neg (show ¬ ((Value.ref T == Value.none) = true) from by simp)]
      have fin : wpAny (model X.prog X.w) X.A (setFlight (.ref a) X.env.frame) (fun _ s4 => wpAny (model X.prog X.w) X.A (throw (.ref a) : Sem Flow) (SP X pins D) X.xe s4) X.xe { s' with heap := h3 } := by
        rw [hf]
        refine HandSPX.setFlight_upZ fl3 fun h4 hh4 up4 => wpAny_throw (tk _ _ ?_)
        exact ⟨a, B, sI, pins, σ', H', .ref C, none, rfl, J, nb, (up.trans up3).trans up4, .inr (.inr (by rw [hs]; exact hh4)), na, os, ag, hno rfl⟩
      first
        | exact wpAny_bind (wpAny_pure (wpAny_bind fin))
        | exact wpAny_bind fin
  · cases f with
    | next =>
      obtain ⟨σ', H', J', q⟩ := hsp
      exact wpAny_execs_nil ⟨σ', H', J'.ofTry ok, q⟩
    | brk =>
      obtain ⟨σ', H', J', q⟩ := hsp
      exact ⟨σ', H', J'.ofTry ok, q⟩
    | cont =>
      obtain ⟨σ', H', J', q⟩ := hsp
      exact ⟨σ', H', J'.ofTry ok, q⟩
    | ret u =>
      obtain ⟨v, σ', H', J', r, q⟩ := hsp
      exact ⟨v, σ', H', J'.ofTry ok, r, q⟩
end
section
variable {X : Cx} {C : Addr} {bmB : List Value} {B newId initId : String}
/-- X(), X an own exception class without own __init__ -/
theorem pmk_own0 {x : Str} {p pos : Pos} (F : ExcBaseFacts B newId initId bmB) (q : PySem.W.excIn X.K C bmB newId = true) (gC : X.mg x = some (.ref C))
    (kC : PySem.W.keepIn X.K (.ref C) = true) (r : Raises X (.ref C)) (hg : Gl X x) (hdb : (x == ("__debug__" : Str)) = false := by decide) :
    PMk X (.Call (.Name x p) [] [] pos) (fun σ H Q => Q (.ref C) none H) := by
  intro pins s σ H Q I h
  refine wpAny_Call_Name_kw (ld_glob I hg gC ?_ hdb)
  refine PySem.W.callWith_K0 I.kIn kC ?_
  show wpAny _ _ (call (.ref C) []) _ _ _
  obtain ⟨bm, N, nm, qn, bs, hdct, sn, sub, ab, col, dd, k0, k1, k2, k3, k5, mN, hC, hN, hni, T⟩ := exc_obj I.kIn q
  refine wpAny_call_exc_subT F T hC hN hni (fun h' e hm => ?_) (Nat.zero_le _)
  exact mk_of I hm r h (I.hok.gone hm.new)
/-- isinstance(e, c), e a kept exception -/
theorem call_isV : CallR X (.builtin "isinstance") (fun xs H Q => ∃ (a C : Addr) (c : V) (cv : Value) (b : Bool), xs = [.ref a, c] ∧ (∀ u, RelV c u → u = cv) ∧ H a = some (ExV C a) ∧ ExcC X.K C ∧ PySem.W.kitOne X.K (.ref C) cv = some b ∧ Q (.bl b) H) := by
  intro pins s σ H xs us Q I r h
  obtain ⟨a, D, c, cv, b, rfl, hcv, ha, C, e, q⟩ := h
  cases r with
  | cons rx rr =>
    cases rr with
    | cons rt rr =>
      cases rr
      cases rx
      have ec := hcv _ rt
      subst ec
      obtain ⟨⟨oe, vs, hget, hz, hv⟩, _⟩ := I.hok a _ ha
      have J : PySem.W.InstAt s.heap a oe D none := by
        obtain ⟨oc, od, oda, osl⟩ := oe
        obtain ⟨h1, h2⟩ := hz
        dsimp only at h1 h2 hv
        subst h1 h2 hv
        exact ⟨hget, rfl, rfl, trivial⟩
      exact PySem.W.kia_one (PySem.W.handS_kitx_exc C.hg C.hk C.hs C.hd C.ha C.hn C.ht C.hm) I.kIn J e (fun z => nomatch z) fun tk => ⟨.bl b, H, I.kept (t' := tk) fun _ _ z => z, rfl, q⟩
end
end L2

set_option Elab.async false
set_option linter.all false
set_option maxRecDepth 100000
set_option maxHeartbeats 4000000
namespace DL
open PySem L2 PyProof.Rows
/-! ### a world of kept exceptions: what is known never changes -/
abbrev UE : Wd := UD
def vKn (v : dcW.W) (a : Addr) (k : Kn) : dcW.W := (⟨DV.K v, DV.ds v, (a, .kn k) :: DV.ts v, DV.tb v⟩ : DV)
def addK (w : UE.W) (a : Addr) (k : Kn) : UE.W := (w.1, vKn w.2 a k)
def vIs (v : dcW.W) (a : Addr) (k : Kn) : Prop := (a, TK.kn k) ∈ DV.ts v
def hasK (w : UE.W) (a : Addr) (k : Kn) : Prop := vIs w.2 a k
/-- all that was known is known -/
def vLe (v v' : dcW.W) : Prop := vK v' = vK v ∧ ∀ a k, vIs v a k → vIs v' a k
section
variable {T a b : Addr} {v v' v2 : dcW.W} {k j : Kn} {c : DC} {ks : List Key}
theorem addK_mk : addK (mkW T v) a k = mkW T (vKn v a k) := rfl
theorem hasK_mk : hasK (mkW T v) a k = vIs v a k := rfl
theorem vIs_kn : vIs (vKn v a k) a k := List.mem_cons_self ..
theorem vIs_more (h : vIs v a k) : vIs (vKn v b j) a k := List.mem_cons_of_mem _ h
theorem vK_kn : vK (vKn v a k) = vK v := rfl
theorem vGet_kn : vGet (vKn v b k) a = vGet v a := rfl
theorem vLe_kn : vLe v (vKn v a k) := ⟨rfl, fun _ _ h => vIs_more h⟩
theorem vLe_new : vLe v (vNew v a c) := ⟨rfl, fun _ _ h => h⟩
theorem vLe_put : vLe v (vPut v a c) := ⟨rfl, fun _ _ h => h⟩
theorem vLe_ts : vLe v (vTs v a ks) := ⟨rfl, fun _ _ h => List.mem_cons_of_mem _ h⟩
theorem vLe.refl : vLe v v := ⟨rfl, fun _ _ h => h⟩
theorem vLe.trans (h : vLe v v') (g : vLe v' v2) : vLe v v2 := ⟨g.1.trans h.1, fun a k x => g.2 a k (h.2 a k x)⟩
end
section
variable {K : PySem.W.Frag} {e : Ent UE} {F : Hp} {ρ : Rho} {w : UE.W} {σ : L2.St} {H : Hp}
theorem Rel.know (R : Rel UE K e F ρ w σ H) {a : Addr} {k : Kn} (h : knOk F a k) : Rel UE K e F ρ (addK w a k) σ H := by
  obtain ⟨⟨r1, r2⟩, rt⟩ := R.bas.rep
  refine ⟨⟨R.bas.fh, ⟨⟨r1, fun c js hc => ?_⟩, rt⟩, R.bas.f, R.bas.keep, R.bas.there, R.bas.new, R.bas.foot⟩, R.slot, fun i xs hi => by
    obtain ⟨l, vs, h1, O, h3⟩ := R.own i xs hi
    exact ⟨l, vs, h1, ⟨O.hl, O.fl, O.nf, O.el⟩, h3⟩, R.inj, R.len⟩
  rcases List.mem_cons.mp hc with hc | hc
  · cases hc; exact h
  · exact r2 c js hc
theorem Rel.known (R : Rel UE K e F ρ w σ H) {a : Addr} {k : Kn} (h : hasK w a k) : knOk F a k := R.bas.rep.1.2 a (.kn k) h
theorem Rel.adopt (R : Rel UE K e F ρ w σ H) {a : Addr} (na : H a = none) (C : Addr) : Rel UE K e (upd F a (ExV C a)) ρ (addK w a (.exc C)) σ (upd H a (ExV C a)) ∧ Same F (upd F a (ExV C a)) := by
  obtain ⟨R', s⟩ := R.laid na (ExV C a)
  exact ⟨R'.know (k := .exc C) upd_same, s⟩
end
/-! ### statements that may raise: wx is what is wished of an exception -/
abbrev WXD (U : Wd) := Addr → Rho → U.W → Prop
structure XOk (U : Wd) (K : PySem.W.Frag) (e : Ent U) (F : Hp) (wx : WXD U) (W : WX) : Prop where
  ex : ∀ C F' ρ' w' σ' H', wx C ρ' w' → Rel U K e F' ρ' w' σ' H' → Same F F' → W (.ref C) none σ' H'
theorem XOk.mono {U : Wd} {K : PySem.W.Frag} {e : Ent U} {F F' : Hp} {wx : WXD U} {W : WX} (E : XOk U K e F wx W) (s : Same F F') : XOk U K e F' wx W :=
  ⟨fun C F1 ρ w σ H q R s1 => E.ex C F1 ρ w σ H q R (s.trans s1)⟩
def upSX (U : Wd) (K : PySem.W.Frag) (e : Ent U) (W : WX) (t : WXD U → TDS U) : TS := fun D σ H => ∃ F ρ w De wx, Rel U K e F ρ w σ H ∧ t wx De ρ w ∧ EndsOk U K e F De D ∧ XOk U K e F wx W
def upX (U : Wd) (K : PySem.W.Frag) (e : Ent U) (W : WX) (t : WXD U → TD U) : TE := fun σ H Q => ∃ F ρ w Q' wx, Rel U K e F ρ w σ H ∧ t wx ρ w Q' ∧ (∀ x v F' w' H', Q' x w' → Rel U K e F' ρ w' σ H' → Same F F' → Din K F' x v → Q v H') ∧ XOk U K e F wx W
def upAX (U : Wd) (K : PySem.W.Frag) (e : Ent U) (W : WX) (t : WXD U → TDL U) : TA := fun σ H Q => ∃ F ρ w Q' wx, Rel U K e F ρ w σ H ∧ t wx ρ w Q' ∧ (∀ xs vs F' w' H', Q' xs w' → Rel U K e F' ρ w' σ H' → Same F F' → DinL K F' xs vs → Q vs H') ∧ XOk U K e F wx W
structure DSx (X : Cx) (U : Wd) (W : WX) (st : Stmt) (t : WXD U → TDS U) : Prop where
  run : ∀ e, PS X st (upSX U X.K e W t)
structure DSsx (X : Cx) (U : Wd) (W : WX) (sts : List Stmt) (t : WXD U → TDS U) : Prop where
  run : ∀ e, PSs X sts (upSX U X.K e W t)
structure DEx (X : Cx) (U : Wd) (W : WX) (ex : Expr) (t : WXD U → TD U) : Prop where
  run : ∀ e, PE X ex (upX U X.K e W t)
structure DAx (X : Cx) (U : Wd) (W : WX) (es : List Expr) (t : WXD U → TDL U) : Prop where
  run : ∀ e, PA X es (upAX U X.K e W t)
section
variable {X : Cx} {U : Wd} {W : WX} {a b c ex : Expr} {rest : List Stmt} {st : Stmt} {pos p : Pos}
theorem dsx_of {t : TDS U} (h : DS X U st t) : DSx X U W st (fun _ => t) := ⟨fun e => (h.run e).weak fun D σ H ⟨F, ρ, w, De, wx, R, q, E, _⟩ => ⟨F, ρ, w, De, R, q, E⟩⟩
theorem dssx_of {t : TDS U} (h : DSs X U rest t) : DSsx X U W rest (fun _ => t) := ⟨fun e => (h.run e).weak fun D σ H ⟨F, ρ, w, De, wx, R, q, E, _⟩ => ⟨F, ρ, w, De, R, q, E⟩⟩
theorem dex_of {t : TD U} (h : DE X U ex t) : DEx X U W ex (fun _ => t) := ⟨fun e => (h.run e).weak fun σ H Q ⟨F, ρ, w, Q', wx, R, q, k, _⟩ => ⟨F, ρ, w, Q', R, q, k⟩⟩
theorem dax_of {es : List Expr} {t : TDL U} (h : DA X U es t) : DAx X U W es (fun _ => t) := ⟨fun e => (h.run e).weak fun σ H Q ⟨F, ρ, w, Q', wx, R, q, k, _⟩ => ⟨F, ρ, w, Q', R, q, k⟩⟩
def dNextX : WXD U → TDS U := fun _ D ρ w => D.nx ρ w
def dSeqX (t u : WXD U → TDS U) : WXD U → TDS U := fun wx D ρ w => t wx { D with nx := u wx D } ρ w
theorem dssx_nil : DSsx X U W [] dNextX := dssx_of dss_nil
theorem dssx_cons {t u : WXD U → TDS U} (h1 : DSx X U W st t) (h2 : DSsx X U W rest u) : DSsx X U W (st :: rest) (dSeqX t u) := ⟨fun e => (pss_cons (h1.run e) (h2.run e)).weak fun D σ H ⟨F, ρ, w, De, wx, R, q, E, XO⟩ =>
  ⟨F, ρ, w, _, wx, R, q, ⟨fun F1 ρ1 w1 σ1 H1 q1 R1 s1 => ⟨F1, ρ1, w1, De, wx, R1, q1, E.mono s1, XO.mono s1⟩, E.rt, E.bk, E.ct⟩, XO⟩⟩
theorem dssx_one {t : WXD U → TDS U} (h1 : DSx X U W st t) : DSsx X U W [st] t := ⟨fun e => pss_one (h1.run e)⟩
/-- a list of our own in slot i is frozen (no code) -/
def dIceX (i : Nat) (t : WXD U → TDS U) : WXD U → TDS U := fun wx D ρ w => match ρ[i]? with
  | some (some (.own xs)) => t wx D (ρ.set i (some (.d (.lst xs)))) w
  | _ => False
theorem dssx_ice (i : Nat) {t : WXD U → TDS U} (h : DSsx X U W rest t) : DSsx X U W rest (dIceX i t) := ⟨fun e => (h.run e).weak fun D σ H ⟨F, ρ, w, De, wx, R, q, E, XO⟩ => by
  unfold dIceX at q
  split at q
  · rename_i xs hi
    obtain ⟨F', R', s'⟩ := R.ice hi
    exact ⟨F', _, w, De, wx, R', q, E.mono s', XO.mono s'⟩
  · exact q.elim⟩
def dIfX (c : TDT U) (t u : WXD U → TDS U) : WXD U → TDS U := fun wx D ρ w => c ρ w fun k w1 => if k = true then t wx D ρ w1 else u wx D ρ w1
theorem dsx_if {p q : List Stmt} {ka : TDT U} {t u : WXD U → TDS U} (hc : DT X U c ka) (ha : DSsx X U W p t) (hb : DSsx X U W q u) : DSx X U W (.If c p q pos) (dIfX ka t u) := ⟨fun e => (ps_if (hc.run e) (ha.run e) (hb.run e)).weak fun D σ H ⟨F, ρ, w, De, wx, R, q, E, XO⟩ =>
  ⟨F, ρ, w, _, R, q, fun k F1 w1 H1 q1 R1 s1 => by
    cases k with
    | true => exact iteT ⟨F1, ρ, w1, De, wx, R1, q1, E.mono s1, XO.mono s1⟩
    | false => exact iteF ⟨F1, ρ, w1, De, wx, R1, q1, E.mono s1, XO.mono s1⟩⟩⟩
/-- raise X() -/
structure ExcMk (K : PySem.W.Frag) (mg : Str → Option Value) (x : Str) (C : Addr) : Prop where
  q : PySem.W.excIn K C [.type "ValueError", .type "Exception", .type "BaseException", .type "object"] "ValueError.__new__" = true
  g : mg x = some (.ref C)
  k : PySem.W.keepIn K (.ref C) = true
  s : PySem.W.subIn K (.ref C) (.type "BaseException") = some true
  t : PySem.W.typeIn K (.ref C) = some (.type "type")
def dRaise (C : Addr) : WXD U → TDS U := fun wx _ ρ w => wx C ρ w
theorem dsx_raise {x : Str} {C : Addr} {p2 : Pos} (hc : X.calm = true) (tk : Takes X W) (M : ExcMk X.K X.mg x C) (hg : Gl X x) (hdb : (x == ("__debug__" : Str)) = false := by decide) :
    DSx X U W (.Raise (some (.Call (.Name x p) [] [] p2)) none pos) (dRaise C) :=
  ⟨fun e => (ps_raise hc tk (pmk_own0 PySem.F.excBase_ValueError M.q M.g M.k (raises_own M.s M.t) hg hdb)).weak fun D σ H ⟨F, ρ, w, De, wx, R, q, E, XO⟩ => XO.ex C F ρ w σ H q R (Same.refl _)⟩
/-! ### calls that may raise -/
abbrev CtX (U : Wd) := List Dt → U.W → (Dt → U.W → Prop) → (Addr → U.W → Prop) → Prop
def spOfX (U : Wd) (K : PySem.W.Frag) (c : CtX U) : Sp := fun vs H Q E => ∃ F w ds Qd Qx, Same F H ∧ U.rep F H w ∧ DinL K F ds vs ∧ c ds w Qd Qx ∧ (∀ x v F' w' H', Qd x w' → Bas U ⟨F, H, w⟩ F' w' H' → Din K F' x v → Q v H') ∧
  ∀ C F' w' H', Qx C w' → Bas U ⟨F, H, w⟩ F' w' H' → E (.ref C) none H'
structure CalX (U : Wd) (P : Program) (wd : World) (K : PySem.W.Frag) (mg : Str → Option Value) (base : Heap) (x : Str) (k : Nat) (c : CtX U) : Prop where
  go : ∃ (f : Addr) (fd : FuncData) (ps : List Str), FnOk P wd K mg base (L2.CX P wd) k f fd ps (spOfX U K c) ∧ mg x = some (.ref f) ∧ PySem.W.keepIn K (.ref f) = true ∧ Binds K fd ps []
def dCalX {U : Wd} (c : CtX U) (ta : TDL U) : WXD U → TD U := fun wx ρ w Q => ta ρ w fun ds w1 => c ds w1 Q fun C w2 => wx C ρ w2
theorem dex_cal {es : List Expr} {x : Str} {k : Nat} {c : CtX U} {ta : TDL U} (tk : Takes X W) (h : CalX U X.prog X.w X.K X.mg X.base x k c) (hr : Room k X.A) (hg : Gl X x) (ha : DA X U (ex :: es) ta) (hdb : (x == ("__debug__" : Str)) = false := by decide)
    (he : starEach (ex :: es) X.env = (false, eval ex X.env) :: starEach es X.env := by rfl) (hpl : (backTo pos (starEach es X.env)).any (·.1) = false := by rfl) : DEx X U W (.Call (.Name x p) (ex :: es) [] pos) (dCalX c ta) := by
  obtain ⟨f, fd, ps, F, hm, hk, hb⟩ := h.go
  exact ⟨fun e => (pe_callS F hr hg hm hk hb (E := WE W) (passAt tk) (ha.run e) hdb he hpl).weak fun σ H Q ⟨F0, ρ, w, Q', wx, R, q, k, XO⟩ => ⟨F0, ρ, w, _, R, q, fun xs vs F1 w1 H1 q1 R1 s1 d1 =>
    ⟨F1, w1, xs, _, _, R1.bas.fh, R1.bas.rep, d1, q1, fun y v F' w' H' q' B d' => k y v F' w' H' q' (R1.after B) (s1.trans B.f) d', fun C F' w' H' q' B => XO.ex C F' ρ w' σ H' q' (R1.after B) (s1.trans B.f)⟩⟩⟩
theorem run_fnNS {pins : List (Addr × Obj)} {σ : L2.St} {H : Hp} {s : Shared} {Q : VK} {us ws : List Value} {vs zs : List V} {CX : CXT} {k n : Nat} {f : Addr} {fd : FuncData} {ps ks : List Str} {sp : Sp} {E : L2.St → XK} {g : List Value → List Value → List Value} {gV : List V → List V → List V}
    (F : FnOk X.prog X.w X.K X.mg X.base CX k f fd ps sp) (hr : Room k X.A) (hb : KBn X.K fd ps n ks g gV) (hx : PassesAt CX X σ (E σ))
    (I : L2.Inv X pins σ H s) (r : Vals vs us) (rz : Vals zs ws) (l1 : vs.length = n) (l2 : zs.length = ks.length) (h : sp (gV vs zs) H Q (E σ)) : wpAny (model X.prog X.w) X.A (call (.ref f) us (ks.zip ws)) (EP X pins σ Q) X.xe s := by
  have r2 := hb.rel r rz
  refine wpAny_call (codeAny_mono (F.run X.A X.stack s H ⟨us, ks.zip ws⟩ (g us ws) (gV vs zs) Q (E σ) hr I.env0 (hb.to s us ws I.kIn (r.length.symm.trans l1) (rz.length.symm.trans l2)) r2 h) fun r s' hq => ?_)
  cases r with
  | error e => exact hx pins H s e s' I hq
  | ok fl =>
    cases fl with
    | ret u => exact I.after hq
    | next => exact False.elim hq
    | brk => exact False.elim hq
    | cont => exact False.elim hq
def tCallNS (n m : Nat) (sp : Sp) (gV : List V → List V → List V) (E : L2.St → XK) (t tk : TA) : TE := fun σ H Q => t σ H fun vs H1 => tk σ H1 fun zs H2 => vs.length = n ∧ zs.length = m ∧ sp (gV vs zs) H2 Q (E σ)
theorem pe_callNS {CX : CXT} {k n : Nat} {f : Addr} {fd : FuncData} {ps ks : List Str} {sp : Sp} {E : L2.St → XK} {x : Str} {e : Expr} {es : List Expr} {kws : List Keyword} {t tk : TA} {g : List Value → List Value → List Value} {gV : List V → List V → List V}
    (F : FnOk X.prog X.w X.K X.mg X.base CX k f fd ps sp) (hr : Room k X.A) (hg : Gl X x) (hm : X.mg x = some (.ref f)) (hk : PySem.W.keepIn X.K (.ref f) = true) (hb : KBn X.K fd ps n ks g gV) (hx : ∀ σ, PassesAt CX X σ (E σ))
    (ha : PA X (e :: es) t) (hkw : PK X kws tk) (hall : (backToKw pos (keywordEach kws X.env)).all (·.1.isSome) = true := by rfl) (hks : (backToKw pos (keywordEach kws X.env)).filterMap (·.1) = ks := by rfl)
    (hdb : (x == ("__debug__" : Str)) = false := by decide) (he : starEach (e :: es) X.env = (false, eval e X.env) :: starEach es X.env := by rfl)
    (hpl : ((backTo pos (starEach (e :: es) X.env)).any (·.1) || (backToKw pos (keywordEach kws X.env)).any (·.1.isNone)) = false := by rfl) :
    PE X (.Call (.Name x p) (e :: es) kws pos) (tCallNS n ks.length sp gV E t tk) := by
  refine ⟨fun pins s σ H Q I h => ?_⟩
  refine wpAny_Call_Name_kw (ld_glob I hg hm ?_ hdb)
  refine PySem.W.callWith_KW (h₀ := X.base) I.ok.mod.kin hk hall (thn (ha.run pos pins s σ H _ I h) fun us s1 ⟨vs, H1, I1, r, q⟩ => ?_) hpl he
  refine thn (hkw.run pos pins s1 σ H1 _ I1 q) fun ws s2 ⟨zs, H2, I2, rz, l1, l2, q2⟩ => ⟨I2.kIn, ?_⟩
  rw [hks]
  exact run_fnNS F hr hb (hx σ) I2 r rz l1 l2 q2
/-- with arguments by keywords: c takes the positional ones, then the keywords' -/
structure CalXK (U : Wd) (P : Program) (wd : World) (K : PySem.W.Frag) (mg : Str → Option Value) (base : Heap) (x : Str) (n : Nat) (ks : List Str) (k : Nat) (c : CtX U) : Prop where
  go : ∃ (f : Addr) (fd : FuncData) (ps : List Str), FnOk P wd K mg base (L2.CX P wd) k f fd ps (spOfX U K c) ∧ mg x = some (.ref f) ∧ PySem.W.keepIn K (.ref f) = true ∧ KBn K fd ps n ks (fun us ws => us ++ ws) (fun us ws => us ++ ws)
def dCalXK {U : Wd} (n m : Nat) (c : CtX U) (ta tk : TDL U) : WXD U → TD U := fun wx ρ w Q => ta ρ w fun ds w1 => tk ρ w1 fun es w2 => ds.length = n ∧ es.length = m ∧ c (ds ++ es) w2 Q fun C w3 => wx C ρ w3
theorem dex_calK {es : List Expr} {kws : List Keyword} {x : Str} {k n : Nat} {ks : List Str} {c : CtX U} {ta tk : TDL U} (tks : Takes X W) (h : CalXK U X.prog X.w X.K X.mg X.base x n ks k c) (hr : Room k X.A) (hg : Gl X x) (ha : DA X U (ex :: es) ta) (hkw : DK X U kws tk)
    (hall : (backToKw pos (keywordEach kws X.env)).all (·.1.isSome) = true := by rfl) (hks : (backToKw pos (keywordEach kws X.env)).filterMap (·.1) = ks := by rfl)
    (hdb : (x == ("__debug__" : Str)) = false := by decide) (he : starEach (ex :: es) X.env = (false, eval ex X.env) :: starEach es X.env := by rfl)
    (hpl : ((backTo pos (starEach (ex :: es) X.env)).any (·.1) || (backToKw pos (keywordEach kws X.env)).any (·.1.isNone)) = false := by rfl) : DEx X U W (.Call (.Name x p) (ex :: es) kws pos) (dCalXK n ks.length c ta tk) := by
  obtain ⟨f, fd, ps, F, hm, hk, hb⟩ := h.go
  exact ⟨fun e => (pe_callNS F hr hg hm hk hb (E := WE W) (passAt tks) (ha.run e) (hkw.run e) hall hks hdb he hpl).weak fun σ H Q ⟨F0, ρ, w, Q', wx, R, q, k, XO⟩ => ⟨F0, ρ, w, _, R, q, fun xs vs F1 w1 H1 q1 R1 s1 d1 =>
    ⟨F1, ρ, w1, _, R1, q1, fun zs us F2 w2 H2 q2 R2 s2 d2 =>
      ⟨d1.length.trans q2.1, d2.length.trans q2.2.1, F2, w2, xs ++ zs, _, _, R2.bas.fh, R2.bas.rep, (DinL.mono s2 _ _ d1).append d2, q2.2.2, fun y v F' w' H' q' B d' => k y v F' w' H' q' (R2.after B) (s1.trans (s2.trans B.f)) d',
        fun C F' w' H' q' B => XO.ex C F' ρ w' σ H' q' (R2.after B) (s1.trans (s2.trans B.f))⟩⟩⟩⟩
def dNilX : WXD U → TDL U := fun _ _ w Q => Q [] w
def dConsX (ta : WXD U → TD U) (tr : WXD U → TDL U) : WXD U → TDL U := fun wx ρ w Q => ta wx ρ w fun x w1 => tr wx ρ w1 fun xs w2 => Q (x :: xs) w2
theorem dax_nil : DAx X U W [] dNilX := dax_of da_nil
theorem dax_cons {es : List Expr} {ta : WXD U → TD U} {tr : WXD U → TDL U} (h : DEx X U W a ta) (hr : DAx X U W es tr) (hs : starEach (a :: es) X.env = (false, eval a X.env) :: starEach es X.env := by rfl) : DAx X U W (a :: es) (dConsX ta tr) :=
  ⟨fun e => (pa_cons (h.run e) (hr.run e) hs).weak fun σ H Q ⟨F, ρ, w, Q', wx, R, q, k, XO⟩ => ⟨F, ρ, w, _, wx, R, q, fun x v F1 w1 H1 q1 R1 s1 d1 =>
    ⟨F1, ρ, w1, _, wx, R1, q1, fun xs vs F2 w2 H2 q2 R2 s2 d2 => k (x :: xs) (v :: vs) F2 w2 H2 q2 R2 (s1.trans s2) ⟨v, vs, rfl, Din.mono s2 _ _ d1, d2⟩, XO.mono s1⟩, XO⟩⟩
def dTupX (t : WXD U → TDL U) : WXD U → TD U := fun wx ρ w Q => t wx ρ w fun xs w1 => xs.length ≤ sizeLine ∧ Q (.tup xs) w1
theorem dex_tup {es : List Expr} {t : WXD U → TDL U} {k : Nat} (h : DAx X U W es t) : DEx X U W (.Tuple es k pos) (dTupX t) :=
  ⟨fun e => (pe_tup (h.run e)).weak fun σ H Q ⟨F, ρ, w, Q', wx, R, q, k, XO⟩ => ⟨F, ρ, w, _, wx, R, q, fun xs vs F1 w1 H1 q1 R1 s1 d1 => ⟨by rw [d1.length]; exact q1.1, fun p hp => by
    obtain ⟨R2, s2⟩ := R1.laid hp (.tup vs)
    exact k (.tup xs) (.ref p) _ w1 _ q1.2 R2 (s1.trans s2) ⟨p, vs, rfl, .inl (.inl upd_same), DinL.mono s2 _ _ d1⟩⟩, XO⟩⟩
/-! ### statements of them -/
def dSetX (i : Nat) (ta : WXD U → TD U) : WXD U → TDS U := fun wx D ρ w => ta wx ρ w fun x w1 => D.nx (ρ.set i (some (.d x))) w1
theorem dsx_set {i : Nat} {x : Str} {pos' : Pos} {ta : WXD U → TD U} (hN : X.N.Nodup) (hi : X.N[i]? = some x) (hx : Loc X.env.scope x) (he : DEx X U W ex ta) (hs : swapsWith ex (some (.Name x pos')) pos.line X.env = pure false := by rfl)
    (hf : X.fn x = true ∨ X.env.scope.names.lookup x = some .local := by first | exact .inl rfl | exact .inr rfl | assumption) : DSx X U W (.Assign [.Name x pos'] ex pos) (dSetX i ta) :=
  ⟨fun e => (ps_set hN hi hx (he.run e) hs hf).weak fun D σ H ⟨F, ρ, w, De, wx, R, q, E, XO⟩ => ⟨F, ρ, w, _, wx, R, q, fun x v F1 w1 H1 q1 R1 s1 d1 => E.nx F1 _ w1 _ H1 q1 (R1.set d1 i) s1, XO⟩⟩
def dRetX (ta : WXD U → TD U) : WXD U → TDS U := fun wx D ρ w => ta wx ρ w D.rt
theorem dsx_ret {ta : WXD U → TD U} (h : DEx X U W ex ta) : DSx X U W (.Return (some ex) pos) (dRetX ta) := ⟨fun e => (ps_ret (h.run e)).weak fun D σ H ⟨F, ρ, w, De, wx, R, q, E, XO⟩ =>
  ⟨F, ρ, w, _, wx, R, q, fun x v F1 w1 H1 q1 R1 s1 d1 => E.rt x v F1 w1 H1 q1 R1.bas s1 d1, XO⟩⟩
def dAsgX (ta : WXD U → TD U) (g : TDG U) : WXD U → TDS U := fun wx D ρ w => ta wx ρ w fun x w1 => g x ρ w1 D.nx
theorem dsx_asg {tg : Expr} {js : List Nat} {ta : WXD U → TD U} {g : TDG U} (he : DEx X U W ex ta) (hg : DG X U tg js g) (hs : swapsWithSole [tg] ex pos.line X.env = pure false := by rfl) (hw : swappedStores [tg] ex X.env = pure none := by rfl)
    (h1 : (assignEach [tg] X.env).map (·.2) = [assign tg X.env] := by rfl) : DSx X U W (.Assign [tg] ex pos) (dAsgX ta g) :=
  ⟨fun e => (ps_asg (he.run e) (hg.run e) hs hw h1).weak fun D σ H ⟨F, ρ, w, De, wx, R, q, E, XO⟩ => ⟨F, ρ, w, _, wx, R, q, fun x v F1 w1 H1 q1 R1 s1 d1 =>
    ⟨F1, ρ, w1, x, _, R1, d1, q1, fun ρ2 w2 σ2 F2 H2 q2 R2 s2 _ => E.nx F2 ρ2 w2 σ2 H2 q2 R2 (s1.trans s2)⟩, XO⟩⟩
end
/-! ### defs that may raise -/
section
variable {U : Wd} {P : Program} {wd : World} {K : PySem.W.Frag} {mg : Str → Option Value} {base : Heap}
theorem ok_defX {x qual : Str} {sd : Stmt} {f : Addr} {fd : FuncData} {N ps : List Str} {k : Nat} {cc : CtX U} {td : WXD U → TDS U} (F : L2.Fun K x qual sd f fd) (S : FnScope N ps (defScope sd))
    (hb : ∀ (cdv : Value) (A : Around) (outer : List Env) (s : Shared) (H : Hp) (E : XK) (W : WX), Room k (A.deeper (PyProof.Rows.envOfC qual (defScope sd) s.heap.objs.size f cdv)) → Takes (cxOf (L2.CX P wd) P wd K mg base N qual (defScope sd) f cdv A outer s H E) W → DSsx (cxOf (L2.CX P wd) P wd K mg base N qual (defScope sd) f cdv A outer s H E) U W (defBody sd) td)
    (hl : ∀ ds w Q Qx, cc ds w Q Qx → ds.length = ps.length)
    (hq : ∀ ds w Q Qx, cc ds w Q Qx → td (fun C _ w' => Qx C w') { nx := fun _ w' => Q .non w', rt := Q } (startR N ds) w) : FnOk P wd K mg base (L2.CX P wd) (k + 1) f fd ps (spOfX U K cc) := by
  have hpl : ps.length ≤ N.length := by have := congrArg List.length S.pre; rw [List.length_take] at this; omega
  obtain ⟨oc, od, kV, doc, pm, an, cdv, ct, osl, rfl, lk, hcd⟩ := F.ex
  refine fn_of lk hcd S (fun vs H Q E h => ?_) fun A outer s H vs Q E hr h => ?_
  · obtain ⟨F0, w, ds, Qd, Qx, _, _, d, c, _⟩ := h
    rw [d.length]; exact hl _ _ _ _ c
  · obtain ⟨F0, w, ds, Qd, Qx, fh, rp, d, c, k1, k2⟩ := h
    have dl := hl _ _ _ _ c
    have tk : Takes (cxOf (L2.CX P wd) P wd K mg base N qual (defScope sd) f cdv A outer s H E) (fun cls d _ H => E cls d H) := takes_of rfl rfl rfl rfl
    refine ⟨_, (hb cdv A outer s H E _ hr tk).run ⟨F0, H, w⟩, F0, startR N ds, w, _, _, rel_start fh rp d (by omega), hq ds w _ _ c, ?_, ?_⟩
    · exact ⟨fun F' ρ' w' σ' H' q R s => k1 .non .non F' w' H' q R.bas rfl, fun x v F' w' H' q B s d => k1 x v F' w' H' q B d, fun F' ρ' w' σ' H' q R s => q.elim, fun F' ρ' w' σ' H' q R s => q.elim⟩
    · exact ⟨fun C F' ρ' w' σ' H' q R s => k2 C F' w' H' q R.bas⟩
theorem CalX.of {x : Str} {k : Nat} {f : Addr} {fd : FuncData} {ps : List Str} {c : CtX U} (F : FnOk P wd K mg base (L2.CX P wd) k f fd ps (spOfX U K c)) (hm : mg x = some (.ref f)) (hk : PySem.W.keepIn K (.ref f) = true) (hb : Binds K fd ps []) : CalX U P wd K mg base x k c :=
  ⟨f, fd, ps, F, hm, hk, hb⟩
theorem CalXK.of {x : Str} {k n : Nat} {ks : List Str} {f : Addr} {fd : FuncData} {ps : List Str} {c : CtX U} (F : FnOk P wd K mg base (L2.CX P wd) k f fd ps (spOfX U K c)) (hm : mg x = some (.ref f)) (hk : PySem.W.keepIn K (.ref f) = true) (hb : KBn K fd ps n ks (fun us ws => us ++ ws) (fun us ws => us ++ ws)) : CalXK U P wd K mg base x n ks k c :=
  ⟨f, fd, ps, F, hm, hk, hb⟩
end
end DL

set_option Elab.async false
set_option linter.all false
set_option maxRecDepth 100000
set_option maxHeartbeats 4000000
namespace L2
open PySem PySem.Spec PyProof.Rows
theorem countP_eqU {x : V} : ∀ {xs : List V} {us : List Value}, Vals xs us → flatV x = true → xs.all flatV = true → us.countP (eqU x) = xs.countP fun y => eqV y x
  | _, _, .nil, _, _ => rfl
  | _, _, .cons r h, fx, hf => by
    rw [List.all_cons, Bool.and_eq_true] at hf
    rw [List.countP_cons, List.countP_cons, countP_eqU h fx hf.2, eqU_of r hf.1]
section
variable {X : Cx}
/-- xs.count(y), flat things -/
theorem mt_cntF : MtR X "list.count" (fun x xs H Q => ∃ (p : Addr) (ys : List V) (y : V), x = .ref p ∧ xs = [y] ∧ SqL X.K H p ys ∧ flatV y = true ∧ ys.all flatV = true ∧ Q (.int (ys.countP fun z => eqV z y : Nat)) H) := by
  intro pins s σ H x xs v us Q I rx rxs h
  obtain ⟨p, ys, y, rfl, rfl, hs, fy, fys, q⟩ := h
  cases rx
  cases rxs with
  | cons ry rt =>
    rename_i uy ut
    cases rt
    obtain ⟨its, rv, ⟨⟨cls, dd, data, sl⟩, n, ho, hc, hdn, hd⟩, hlen⟩ := I.list hs
    simp only at hc hd
    subst hc hd
    refine call_meets PySem.F.slot_list_count ⟨_, ho, rfl⟩ PySem.F.entry_list_count (PySem.F.args_list_count_2 _ _)
      (SeqAt.list_countAt p its.toArray n dd sl uy (eqU y)) ⟨ho, fun u' hu' => mem_eqAt ry fy rv fys u' (by simpa using hu'), ?_⟩
    have ec : its.toArray.toList.countP (eqU y) = ys.countP fun z => eqV z y := countP_eqU rv fy fys
    refine ⟨.int (ys.countP fun z => eqV z y : Nat), H, I.tok _, ⟨s.toks, ?_⟩, q⟩
    show Value.int ((its.toArray.toList.countP (eqU y) : Nat) : Int) s.toks = _
    rw [ec]
end
end L2
namespace DL
open PySem L2 PyProof.Rows
theorem Rel.unset {U : Wd} {K : PySem.W.Frag} {e : Ent U} {F : Hp} {ρ : Rho} {w : U.W} {σ : L2.St} {H : Hp} (R : Rel U K e F ρ w σ H) (i : Nat) : Rel U K e F (ρ.set i none) w (σ.set i none) H := by
  have g : ∀ (j : Nat) (s : Slot), (ρ.set i none)[j]? = some (some s) → i ≠ j ∧ ρ[j]? = some (some s) := fun j s h => by
    by_cases e : i = j
    · subst e
      have q := (List.getElem?_eq_some_iff.mp h).1
      rw [List.length_set] at q
      rw [List.getElem?_set_self q] at h
      cases h
    · rw [List.getElem?_set_ne e] at h
      exact ⟨e, h⟩
  refine ⟨R.bas, fun j y h => ?_, fun j xs h => ?_, fun j k xs ys l h1 h2 h3 h4 => ?_, by rw [List.length_set, List.length_set]; exact R.len⟩
  · obtain ⟨n, h⟩ := g _ _ h
    obtain ⟨v, h1, h2⟩ := R.slot j y h
    exact ⟨v, by rw [List.getElem?_set_ne n]; exact h1, h2⟩
  · obtain ⟨n, h⟩ := g _ _ h
    obtain ⟨l, vs, h1, h2⟩ := R.own j xs h
    exact ⟨l, vs, by rw [List.getElem?_set_ne n]; exact h1, h2⟩
  · obtain ⟨n1, h1⟩ := g _ _ h1
    obtain ⟨n2, h2⟩ := g _ _ h2
    rw [List.getElem?_set_ne n1] at h3
    rw [List.getElem?_set_ne n2] at h4
    exact R.inj j k xs ys l h1 h2 h3 h4
/-! ### try: .. except C as e: .. -/
def dTry (K : PySem.W.Frag) (c : Value) (i : Nat) (tb : WXD UE → TDS UE) (ts : TDS UE) : TDS UE := fun D ρ w => tb (fun C ρ' w' => PySem.W.exmOne K (.ref C) c = some true ∧ ∀ a, ts { nx := fun ρ2 w2 => D.nx (ρ2.set i none) w2, rt := D.rt, bk := fun ρ2 w2 => D.bk (ρ2.set i none) w2, ct := fun ρ2 w2 => D.ct (ρ2.set i none) w2 } (ρ'.set i (some (.d (.ref a)))) (addK w' a (.exc C))) D ρ w
section
variable {X : Cx} {x n : Str} {c : Value} {i : Nat} {body suite : List Stmt} {b₀ : Stmt} {np pos pos' : Pos}
theorem ds_try {tb : WXD UE → TDS UE} {ts : TDS UE} (hex : X.ex = []) (hs : X.stack = X.env :: X.outer) (hf : X.env.frame = some X.env.locals) (hN : X.N.Nodup) (hi : X.N[i]? = some n) (hln : X.env.kindOf n = some .local) (hc : Names X x c)
    (hb : ∀ (W : WX) (pn : List (Addr × Obj)) (xe : Value → Shared → Prop), Takes (X.tr pn xe) W → PassesOwn (model X.prog X.w) X.A X.env xe → DSsx (X.tr pn xe) UE W body tb)
    (hsu : ∀ (a : Addr) (pn : List (Addr × Obj)), DSs (X.suite a pn) UE (b₀ :: suite) ts) :
    DS X UE (.Try body [.ExceptHandler (some (.Name x np)) (some n) (b₀ :: suite) pos'] [] [] pos) (dTry X.K c i tb ts) :=
  ⟨fun e => (ps_tryV (tb := fun W => upSX UE X.K e W tb) hex hs hf hN hi hln hc (Wout := fun _ _ _ _ => False) (fun u s' ⟨_, _, _, _, _, _, _, _, _, _, _, _, _, _, _, _, z⟩ => z.elim) (fun W pn xe tk ps => (hb W pn xe tk ps).run e) (ts := fun a _ => upS UE X.K e ts) (fun a C pn => (hsu a pn).run e)).weak
    fun D σ H ⟨F, ρ, w, De, R, q, E⟩ => ⟨F, ρ, w, De, _, R, q, E, ⟨fun C F' ρ' w' σ' H' ⟨q1, q2⟩ R' s' => ⟨C, true, rfl, rfl, q1, fun _ a na => by
      obtain ⟨R2, s2⟩ := R'.adopt na C
      refine ⟨_, _, _, _, R2.set (x := .ref a) (v := .ref a) rfl i, q2 a, ?_⟩
      exact ⟨fun F3 ρ3 w3 σ3 H3 q3 R3 s3 => E.nx F3 _ w3 _ H3 q3 (R3.unset i) (s'.trans (s2.trans s3)), fun x v F3 w3 H3 q3 B3 s3 d3 => E.rt x v F3 w3 H3 q3 B3 (s'.trans (s2.trans s3)) d3,
        fun F3 ρ3 w3 σ3 H3 q3 R3 s3 => E.bk F3 _ w3 _ H3 q3 (R3.unset i) (s'.trans (s2.trans s3)), fun F3 ρ3 w3 σ3 H3 q3 R3 s3 => E.ct F3 _ w3 _ H3 q3 (R3.unset i) (s'.trans (s2.trans s3))⟩, fun z => nomatch z⟩⟩⟩⟩
/-- isinstance(e, C), e a kept exception -/
def dIsE (K : PySem.W.Frag) (cv : Value) (ta : TD UE) : TD UE := fun ρ w Q => ta ρ w fun x w1 => match x with
  | .ref a => ∃ C b, hasK w1 a (.exc C) ∧ ExcC K C ∧ PySem.W.kitOne K (.ref C) cv = some b ∧ Q (.bl b) w1
  | _ => False
variable {a : Expr} {ta : TD UE}
theorem up_isE {e : Ent UE} {σ : L2.St} {H : Hp} {Q : VK} {c : V} {cv : Value} (hcv : ∀ u, RelV c u → u = cv) (h : up UE X.K e (dIsE X.K cv ta) σ H Q) : up UE X.K e ta σ H fun x H1 => ∃ (a C : Addr) (c' : V) (cv : Value) (b : Bool), [x, c] = [.ref a, c'] ∧ (∀ u, RelV c' u → u = cv) ∧ H1 a = some (ExV C a) ∧ ExcC X.K C ∧ PySem.W.kitOne X.K (.ref C) cv = some b ∧ Q (.bl b) H1 := by
  obtain ⟨F, ρ, w, Q', R, q, k⟩ := h
  refine ⟨F, ρ, w, _, R, q, fun x v F1 w1 H1 q1 R1 s1 d1 => ?_⟩
  cases x with
  | ref a =>
    cases (show v = .ref a from d1)
    obtain ⟨C, b, hm, hC, hk, q2⟩ := q1
    exact ⟨a, C, c, cv, b, rfl, hcv, R1.bas.fh _ _ (R1.known hm), hC, hk, k _ _ F1 w1 H1 q2 R1 s1 rfl⟩
  | _ => exact q1.elim
theorem de_isE {T : Str} {C : Addr} {p2 p3 pos : Pos} (hg : Gl X "isinstance") (hm : X.mg "isinstance" = none) (hgT : Gl X T) (hmT : X.mg T = some (.ref C)) (ha : DE X UE a ta)
    (hdb : (T == ("__debug__" : Str)) = false := by decide) (hs : starEach [a, .Name T p3] X.env = [(false, eval a X.env), (false, eval (.Name T p3) X.env)] := by rfl)
    (hs2 : starEach [.Name T p3] X.env = [(false, eval (.Name T p3) X.env)] := by rfl) (hpl : (backTo pos (starEach [.Name T p3] X.env)).any (·.1) = false := by rfl) :
    DE X UE (.Call (.Name "isinstance" p2) [a, .Name T p3] [] pos) (dIsE X.K (.ref C) ta) :=
  ⟨fun e => (pe_callB call_isV hg hm (by decide +kernel) (pa_cons (ha.run e) (pa_cons (pe_glob (v := .ref C) hgT hmT rfl hdb) pa_nil hs2) (by rw [hs, hs2])) (by decide) (by decide) (by rw [hs, hs2]) hpl).weak
    fun σ H Q h => up_isE (fun u r => r) h⟩
theorem de_isEb {T : Str} {Tn : String} {p2 p3 pos : Pos} (hg : Gl X "isinstance") (hm : X.mg "isinstance" = none) (hgT : Gl X T) (hmT : X.mg T = none) (hvT : bootBuiltins T = some (.type Tn)) (ha : DE X UE a ta)
    (hn : T ≠ "__name__" := by decide) (hdb : (T == ("__debug__" : Str)) = false := by decide) (hs : starEach [a, .Name T p3] X.env = [(false, eval a X.env), (false, eval (.Name T p3) X.env)] := by rfl)
    (hs2 : starEach [.Name T p3] X.env = [(false, eval (.Name T p3) X.env)] := by rfl) (hpl : (backTo pos (starEach [.Name T p3] X.env)).any (·.1) = false := by rfl) :
    DE X UE (.Call (.Name "isinstance" p2) [a, .Name T p3] [] pos) (dIsE X.K (.type Tn) ta) :=
  ⟨fun e => (pe_callB call_isV hg hm (by decide +kernel) (pa_cons (ha.run e) (pa_cons (pe_bltn (v := .ty Tn) hgT hmT hvT rfl hn hdb) pa_nil hs2) (by rw [hs, hs2])) (by decide) (by decide) (by rw [hs, hs2]) hpl).weak
    fun σ H Q h => up_isE (fun u r => r) h⟩
end
/-! ### an expression that is never come to -/
def dNo {U : Wd} : TD U := fun _ _ _ => False
theorem de_no {X : Cx} {U : Wd} {ex : Expr} : DE X U ex dNo := ⟨fun e => ⟨fun pins s σ H Q I ⟨F, ρ, w, Q', R, q, k⟩ => q.elim⟩⟩
/-! ### xs.count(y), xs.index(y) of flat things -/
section
variable {X : Cx} {U : Wd} {a b : Expr} {ta tb : TD U}
def dML (g : List Dt → Dt → (Dt → Prop) → Prop) (ta tb : TD U) : TD U := fun ρ w Q => ta ρ w fun x w1 => match x with
  | .lst xs => tb ρ w1 fun y w2 => g xs y fun z => Q z w2
  | _ => False
def gCnt (xs : List Dt) (y : Dt) (Q : Dt → Prop) : Prop := y.flat = true ∧ xs.all Dt.flat = true ∧ Q (.int (xs.countP fun z => eqd z y : Nat))
def gIndx (xs : List Dt) (y : Dt) (Q : Dt → Prop) : Prop := y.flat = true ∧ xs.all Dt.flat = true ∧ ∃ j z, xs[j]? = some z ∧ eqd z y = true ∧ (∀ m z', m < j → xs[m]? = some z' → eqd z' y = false) ∧ Q (.int (j : Nat))
theorem flat_vs {K : PySem.W.Frag} {F : Hp} : ∀ {ys : List Dt} {vs : List V}, DinL K F ys vs → ys.all Dt.flat = true → vs.all flatV = true
  | [], vs, h, _ => by cases (show vs = [] from h); rfl
  | y :: ys, vs, ⟨v, vt, e, h1, h2⟩, hf => by
    subst e
    have hf := Bool.and_eq_true_iff.mp (show (y.flat && ys.all Dt.flat) = true from hf)
    show (flatV v && vt.all flatV) = true
    rw [flat_v h1 hf.1, flat_vs h2 hf.2]; rfl
theorem flat_cnt {K : PySem.W.Frag} {F : Hp} {y : Dt} {u : V} (hy : Din K F y u) (fy : y.flat = true) : ∀ {ys : List Dt} {vs : List V}, DinL K F ys vs → ys.all Dt.flat = true → (vs.countP fun z => eqV z u) = ys.countP fun z => eqd z y
  | [], vs, h, _ => by cases (show vs = [] from h); rfl
  | z :: ys, vs, ⟨v, vt, e, h1, h2⟩, hf => by
    subst e
    have hf := Bool.and_eq_true_iff.mp (show (z.flat && ys.all Dt.flat) = true from hf)
    rw [List.countP_cons, List.countP_cons, flat_cnt hy fy h2 hf.2, flat_eq h1 hf.1 hy fy]
theorem de_count {apos cpos : Pos} (ha : DE X U a ta) (hb : DE X U b tb) (hbase : attributeBase a "count" X.env (eval a X.env) = eval a X.env := by rfl)
    (hfew : ((backTo cpos (starEach [b] X.env)).all (fun x => !x.1) && (backToKw cpos (keywordEach [] X.env)).all (fun x => x.1.isSome) && decide ([b].length + ([] : List Keyword).length + (if ([] : List Keyword).isEmpty then 0 else 1) < 30)) = true := by rfl)
    (hline : (apos.endLine == cpos.line) = true := by rfl) (hs : starEach [b] X.env = [(false, eval b X.env)] := by rfl) (hpl : (backTo cpos (starEach [] X.env)).any (·.1) = false := by rfl) :
    DE X U (.Call (.Attribute a "count" apos) [b] [] cpos) (dML gCnt ta tb) :=
  ⟨fun e => (pe_bm PySem.F.plainAttrs_list PySem.F.slot_list_count PySem.F.type_list_count mt_cntF (ha.run e) (pa_cons (hb.run e) pa_nil hs) hbase hfew hline hs hpl).weak fun σ H Q ⟨F, ρ, w, Q', R, q, k⟩ => ⟨F, ρ, w, _, R, q, fun x v F1 w1 H1 q1 R1 s1 d1 => by
    cases x with
    | lst xs =>
      obtain ⟨l, vs, e1, h1, dd⟩ := d1
      subst e1
      refine ⟨.inl ⟨rfl, vs, SqL.of (R1.bas.fh _ _ h1)⟩, F1, ρ, w1, _, R1, q1, fun y u F2 w2 H2 q2 R2 s2 d2 => ?_⟩
      obtain ⟨fy, fx, q3⟩ := q2
      have dd2 := DinL.mono s2 _ _ dd
      refine ⟨l, vs, u, rfl, rfl, SqL.of (R2.bas.fh _ _ (s2 _ _ h1)), flat_v d2 fy, flat_vs dd2 fx, ?_⟩
      rw [flat_cnt d2 fy dd2 fx]
      exact k _ _ F2 w2 H2 q3 R2 (s1.trans s2) rfl
    | _ => exact q1.elim⟩⟩
theorem de_index {apos cpos : Pos} (ha : DE X U a ta) (hb : DE X U b tb) (hbase : attributeBase a "index" X.env (eval a X.env) = eval a X.env := by rfl)
    (hfew : ((backTo cpos (starEach [b] X.env)).all (fun x => !x.1) && (backToKw cpos (keywordEach [] X.env)).all (fun x => x.1.isSome) && decide ([b].length + ([] : List Keyword).length + (if ([] : List Keyword).isEmpty then 0 else 1) < 30)) = true := by rfl)
    (hline : (apos.endLine == cpos.line) = true := by rfl) (hs : starEach [b] X.env = [(false, eval b X.env)] := by rfl) (hpl : (backTo cpos (starEach [] X.env)).any (·.1) = false := by rfl) :
    DE X U (.Call (.Attribute a "index" apos) [b] [] cpos) (dML gIndx ta tb) :=
  ⟨fun e => (pe_bm PySem.F.plainAttrs_list PySem.F.slot_list_index PySem.F.type_list_index mt_index (ha.run e) (pa_cons (hb.run e) pa_nil hs) hbase hfew hline hs hpl).weak fun σ H Q ⟨F, ρ, w, Q', R, q, k⟩ => ⟨F, ρ, w, _, R, q, fun x v F1 w1 H1 q1 R1 s1 d1 => by
    cases x with
    | lst xs =>
      obtain ⟨l, vs, e1, h1, dd⟩ := d1
      subst e1
      refine ⟨.inl ⟨rfl, vs, SqL.of (R1.bas.fh _ _ h1)⟩, F1, ρ, w1, _, R1, q1, fun y u F2 w2 H2 q2 R2 s2 d2 => ?_⟩
      obtain ⟨fy, fx, j, z, hz, hzy, hno, q3⟩ := q2
      have dd2 := DinL.mono s2 _ _ dd
      have fl : ∀ (m : Nat) (z : Dt), xs[m]? = some z → z.flat = true := fun m z h => List.all_eq_true.mp fx z (List.mem_of_getElem? h)
      obtain ⟨vz, g1, g2⟩ := dd2.get hz
      refine ⟨l, vs, u, j, vz, rfl, rfl, SqL.of (R2.bas.fh _ _ (s2 _ _ h1)), flat_v d2 fy, flat_vs dd2 fx, g1, by rw [flat_eq g2 (fl _ _ hz) d2 fy]; exact hzy, fun m z' hm h' => ?_, k _ _ F2 w2 H2 q3 R2 (s1.trans s2) rfl⟩
      obtain ⟨y', gy, dy⟩ := dd2.getV m z' h'
      rw [flat_eq dy (fl _ _ gy) d2 fy]
      exact hno m y' hm gy
    | _ => exact q1.elim⟩⟩
end
end DL

set_option Elab.async false
set_option linter.all false
set_option maxRecDepth 100000
set_option maxHeartbeats 4000000
/-! ### t.index(x) of a tuple of data -/
namespace L2
open PySem PySem.Spec PyProof.Rows
section
variable {X : Cx}
theorem mt_tindexD (hu : X.A.units + 65 < cLine) : MtR X "tuple.index" (fun x xs H Q => ∃ (a : Addr) (y : V) (d : PyData) (ds : List PyData) (j : Nat) (z : PyData), x = V.ref a ∧ xs = [y] ∧ Dp X.K H (V.ref a) (.tuple ds) ∧ Dp X.K H y d ∧
    SeqAt.shaped (.list ds) = true ∧ SeqAt.shaped d = true ∧ ds[j]? = some z ∧ PyData.eqv z d = true ∧ (∀ (m : Nat) (z' : PyData), m < j → ds[m]? = some z' → PyData.eqv z' d = false) ∧ Q (.int (j : Nat)) H) := by
  intro pins s σ H x xs v us Q I rx rxs h
  obtain ⟨a, y, d, ds, j, z, rfl, rfl, hl, hy, sl, sd, hz, hzj, hno, q⟩ := h
  cases rx
  cases rxs with
  | cons ry rt =>
    rename_i uy ut
    cases rt
    obtain ⟨bs, r1⟩ := Dp.reads I d y uy hy ry
    have hxs : PyData.canLayAll0 ds = true := SeqAt.canLay_of_shaped sl
    have hroom : X.A.units + 1 + min (PyData.depthAll ds) d.depth < cLine := room_in_shaped sd hu
    cases hl with
    | tup hs ha =>
      obtain ⟨its, rv, ⟨⟨cls, dd, data, sls⟩, ho, hc, n, hdt⟩, hlen⟩ := I.tuple hs
      simp only at hc hdt
      subst hc hdt
      obtain ⟨as, h4⟩ := Dp.readsAll I ds _ its ha rv
      have hn : its.length = ds.length := SeqAt.ReadsAll.length ds its as h4
      have hmap : its.map (SeqAt.readOf s.heap) = ds := SeqAt.readsAll_map ds its as hxs h4
      have hvl := rv.length
      have hsl := sizeLine_eq
      obtain ⟨hjd, _⟩ := List.getElem?_eq_some_iff.mp hz
      have hjl : j < its.length := by omega
      have hj : j < its.toArray.size := by simpa using hjl
      have at_ : ∀ (m : Nat) (hm : m < its.toArray.size) (z' : PyData), ds[m]? = some z' → SeqAt.readOf s.heap its.toArray[m] = z' := by
        intro m hm z' hz'
        have hml : m < its.length := by simpa using hm
        rw [← hmap, List.getElem?_map, List.getElem?_eq_getElem hml] at hz'
        have e1 : SeqAt.readOf s.heap its[m] = z' := Option.some.inj (show some (SeqAt.readOf s.heap its[m]) = some z' from hz')
        simpa using e1
      have ie := SeqAt.items_eqAt (A := X.A) (vs := its.toArray) (show ReadsAll s.heap its.toArray.toList ds as from h4) r1 hxs (SeqAt.canLay_of_shaped sd) hroom
      refine call_meets PySem.F.slot_tuple_index ⟨_, ho, rfl⟩ PySem.F.entry_tuple_index (PySem.F.args_tuple_index_2 _ _)
        (SeqAt.tuple_index2_found a its.toArray n dd sls uy (fun m => PyData.eqv (ds[m]?.getD .none) d) j hj (Nat.zero_le _) hj ?_ ?_) ⟨ho, fun m hm => ?_, ?_⟩
      · show PyData.eqv (ds[j]?.getD .none) d = true
        rw [hz]
        exact hzj
      · intro m hm _ hmj
        have hmd : m < ds.length := by omega
        show PyData.eqv (ds[m]?.getD .none) d = false
        rw [List.getElem?_eq_getElem hmd]
        exact hno m _ hmj (List.getElem?_eq_getElem hmd)
      · have hml : m < ds.length := by
          have : m < its.length := by simpa using hm
          omega
        have e1 := at_ m hm ds[m] (List.getElem?_eq_getElem hml)
        have e2 := ie its.toArray[m] (Array.getElem_mem hm)
        rw [e1] at e2
        show SeqAt.EqAt X.A.in1 s its.toArray[m] uy (PyData.eqv (ds[m]?.getD .none) d)
        rw [List.getElem?_eq_getElem hml]
        exact e2
      · exact ⟨.int (j : Nat), H, I.tok _, ⟨_, rfl⟩, q⟩
end
end L2
namespace L2
open PySem PySem.Spec PyProof.Rows
section
variable {X : Cx} {o e : Expr} {es : List Expr} {to : TE} {t : TA} {name : Str} {apos cpos : Pos} {id : String} {r : V → List V → Hp → VK → Prop}
/-- o.m(e, ..), o a tuple whose object is known to have no dict -/
theorem pe_bmP (slot : Slot "tuple" name id) (hty : typeOf (.builtin id) = pure (.type "method_descriptor")) (hm : MtR X id r) (ho : PE X o to) (ha : PA X (e :: es) t)
    (hbase : attributeBase o name X.env (eval o X.env) = eval o X.env := by rfl)
    (hfew : ((backTo cpos (starEach (e :: es) X.env)).all (fun x => !x.1) && (backToKw cpos (keywordEach [] X.env)).all (fun x => x.1.isSome)
      && decide ((e :: es).length + ([] : List Keyword).length + (if ([] : List Keyword).isEmpty then 0 else 1) < 30)) = true := by rfl)
    (hline : (apos.endLine == cpos.line) = true := by rfl) (hs : starEach (e :: es) X.env = (false, eval e X.env) :: starEach es X.env := by rfl) (hplain : (backTo cpos (starEach es X.env)).any (·.1) = false := by rfl) :
    PE X (.Call (.Attribute o name apos) (e :: es) [] cpos) (fun σ H Q => to σ H fun x H1 => (∃ (a : Addr) (ob : Obj) (vs : List V), x = .ref a ∧ H1 a = some (.frz ob (.tup vs)) ∧ ob.dict = none) ∧ t σ H1 fun xs H2 => r x xs H2 Q) := by
  refine ⟨fun pins s σ H Q I h => ?_⟩
  refine wpAny_Call_method_late hbase hfew hline rfl (thn (ho.run pins s σ H _ I h) fun v s1 ⟨x, H1, I1, r1, ⟨a, ob, vs, ex, hf, hd⟩, q1⟩ => ?_)
  subst ex
  cases (show v = Value.ref a from r1)
  obtain ⟨hg, _, its, _, ob', hg', hcl, _⟩ := I1.hok a _ hf
  rw [hg] at hg'
  cases hg'
  refine ⟨"tuple", id, PySem.F.plainAttrs_tuple, slot, hty, ⟨_, hg, hcl⟩, fun b e => by cases e; exact ⟨_, hg, hd⟩, ?_⟩
  have hA := ha.run cpos pins s1 σ H1 _ I1 q1
  rw [hs] at hA ⊢
  refine Calls.callWith_builtin (by show (false || (backTo cpos (starEach es X.env)).any (·.1)) = false; rw [hplain] <;> rfl) (Calls.evalArgs_plain ?_)
  exact thn hA fun us s2 ⟨vs, H2, I2, r2, q2⟩ => hm pins s2 σ H2 _ vs _ us Q I2 r1 r2 q2
/-- tuple(l), the new tuple's object told -/
theorem call_tuple_frz : CallR X (.type "tuple") (fun xs H Q => ∃ p ys, xs = [.ref p] ∧ SqL X.K H p ys ∧ ∀ (l : Addr) (ob : Obj), H l = none → ob.dict = none → Q (.ref l) (upd H l (.frz ob (.tup ys)))) := by
  intro pins s σ H xs us Q I r h
  obtain ⟨p, ys, rfl, hq, q⟩ := h
  obtain ⟨u, rfl, rx⟩ := vals1 r
  cases rx
  obtain ⟨its, r', pl, hz⟩ := I.list hq
  have hlen := r'.length
  refine call_tuple_list pl.isList (fun h' kp => ?_) (by simp only [List.size_toArray] <;> omega)
  have I1 : Inv X pins σ H { s with heap := h' } := I.kept (t' := s.toks) kp
  have I2 : Inv X pins σ (upd H h'.objs.size (.frz { cls := .type "tuple", data := .seq its.toArray } (.tup ys))) { s with heap := h'.push { cls := .type "tuple", data := .seq its.toArray } } :=
    I1.laid (t' := s.toks) (fun b o e => Heap.get?_push_of_some _ e) (Nat.le_refl _) (show ObjOk X.prog X.w _ _ _ (.frz _ (.tup ys)) from ⟨Heap.get?_push_size _ rfl, hz, its, r', IsTup.new _ _⟩)
  exact ⟨.ref h'.objs.size, _, I2, rfl, q _ _ (I1.hok.fresh (Nat.le_refl _)) rfl⟩
end
end L2
namespace DL
open PySem L2 PyProof.Rows
section
variable {X : Cx} {a b : Expr} {ta tb : TD UE}
/-- tuple(e): the value by its address, the data known of it -/
def dTupP (K : PySem.W.Frag) (ta : TD UE) : TD UE := fun ρ w Q => ta ρ w fun x w1 => match x with
  | .lst xs => ∀ a, Q (.ref a) (addK w1 a (.pl K xs))
  | _ => False
theorem de_tupleP {p2 pos : Pos} (hg : Gl X "tuple") (hm : X.mg "tuple" = none) (ha : DE X UE a ta) (hs : starEach [a] X.env = [(false, eval a X.env)] := by rfl) (hpl : (backTo pos (starEach [] X.env)).any (·.1) = false := by rfl) :
    DE X UE (.Call (.Name "tuple" p2) [a] [] pos) (dTupP X.K ta) :=
  ⟨fun e => (pe_callTy call_tuple_frz hg hm (by decide +kernel) (pa_cons (ha.run e) pa_nil hs) (by decide) (by decide) hs hpl).weak fun σ H Q ⟨F, ρ, w, Q', R, q, k⟩ => ⟨F, ρ, w, _, R, q, fun x v F1 w1 H1 q1 R1 s1 d1 => by
    cases x with
    | lst xs =>
      obtain ⟨l, vs, e1, h1, dd⟩ := d1
      subst e1
      refine ⟨l, vs, rfl, SqL.of (R1.bas.fh _ _ h1), fun p ob hp hd => ?_⟩
      obtain ⟨R2, s2⟩ := R1.laid hp (.frz ob (.tup vs))
      exact k _ _ _ _ _ (q1 p) (R2.know (k := .pl X.K xs) ⟨ob, vs, upd_same, hd, DinL.mono s2 _ _ dd⟩) (s1.trans s2) rfl
    | _ => exact q1.elim⟩⟩
/-- the data of a value that is known by its address -/
def dDer (K : PySem.W.Frag) (ta : TD UE) : TD UE := fun ρ w Q => ta ρ w fun x w1 => match x with
  | .ref a => ∃ xs, hasK w1 a (.pl K xs) ∧ Q (.tup xs) w1
  | _ => False
theorem de_der (ha : DE X UE a ta) : DE X UE a (dDer X.K ta) := ⟨fun e => (ha.run e).weak fun σ H Q ⟨F, ρ, w, Q', R, q, k⟩ => ⟨F, ρ, w, _, R, q, fun x v F1 w1 H1 q1 R1 s1 d1 => by
  cases x with
  | ref a =>
    cases (show v = .ref a from d1)
    obtain ⟨xs, hm, q2⟩ := q1
    obtain ⟨o, vs, h1, h2, h3⟩ := R1.known hm
    exact k _ _ F1 w1 H1 q2 R1 s1 ⟨a, vs, rfl, .inl (.inr ⟨o, h1⟩), h3⟩
  | _ => exact q1.elim⟩⟩
def gIndD (xs : List Dt) (y : Dt) (Q : Dt → Prop) : Prop := Dt.npL xs = true ∧ y.np = true ∧ Dt.depL xs ≤ 60 ∧ y.dep ≤ 60 ∧ ∃ j z, xs[j]? = some z ∧ eqd z y = true ∧ (∀ m z', m < j → xs[m]? = some z' → eqd z' y = false) ∧ Q (.int (j : Nat))
def dIndP (K : PySem.W.Frag) (ta tb : TD UE) : TD UE := fun ρ w Q => ta ρ w fun x w1 => match x with
  | .ref a => ∃ xs, hasK w1 a (.pl K xs) ∧ tb ρ w1 fun y w2 => gIndD xs y fun z => Q z w2
  | _ => False
theorem de_indexP {apos cpos : Pos} (hu : X.A.units + 65 < cLine) (ha : DE X UE a ta) (hb : DE X UE b tb) (hbase : attributeBase a "index" X.env (eval a X.env) = eval a X.env := by rfl)
    (hfew : ((backTo cpos (starEach [b] X.env)).all (fun x => !x.1) && (backToKw cpos (keywordEach [] X.env)).all (fun x => x.1.isSome) && decide ([b].length + ([] : List Keyword).length + (if ([] : List Keyword).isEmpty then 0 else 1) < 30)) = true := by rfl)
    (hline : (apos.endLine == cpos.line) = true := by rfl) (hs : starEach [b] X.env = [(false, eval b X.env)] := by rfl) (hpl : (backTo cpos (starEach [] X.env)).any (·.1) = false := by rfl) :
    DE X UE (.Call (.Attribute a "index" apos) [b] [] cpos) (dIndP X.K ta tb) :=
  ⟨fun e => (pe_bmP PySem.F.slot_tuple_index PySem.F.type_tuple_index (mt_tindexD hu) (ha.run e) (pa_cons (hb.run e) pa_nil hs) hbase hfew hline hs hpl).weak fun σ H Q ⟨F, ρ, w, Q', R, q, k⟩ => ⟨F, ρ, w, _, R, q, fun x v F1 w1 H1 q1 R1 s1 d1 => by
    cases x with
    | ref l =>
      cases (show v = .ref l from d1)
      obtain ⟨xs, hm, q1⟩ := q1
      obtain ⟨o, vs, h1, h2, dd⟩ := R1.known hm
      refine ⟨⟨l, o, vs, rfl, R1.bas.fh _ _ h1, h2⟩, F1, ρ, w1, _, R1, q1, fun y u F2 w2 H2 q2 R2 s2 d2 => ?_⟩
      obtain ⟨nx, ny, dx, dy, j, z, hz, hzy, hno, q3⟩ := q2
      have d0 : Din X.K F2 (.tup xs) (.ref l) := ⟨l, vs, rfl, .inl (.inr ⟨o, s2 _ _ h1⟩), DinL.mono s2 _ _ dd⟩
      obtain ⟨p1, c1⟩ := R2.dp (x := .tup xs) (.inl d0) nx
      obtain ⟨p2, c2⟩ := R2.dp (.inl d2) ny
      have pg : ∀ m : Nat, (Dt.pyL xs)[m]? = (xs[m]?).map Dt.py := fun m => by rw [pyL_map, List.getElem?_map]
      have sh : ∀ {d : PyData}, d.canLay0 = true → d.depth ≤ 64 → SeqAt.shaped d = true := fun {d} h1 h2 => by
        show (d.canLay0 && decide (d.depth ≤ 64)) = true
        rw [h1, decide_eq_true h2]; rfl
      refine ⟨l, u, y.py, Dt.pyL xs, j, z.py, rfl, rfl, p1, p2, sh c1 ?_, sh c2 (by rw [dep_py y ny]; omega), by rw [pg, hz]; rfl, by rw [← eqd_py]; exact hzy, fun m z' hm h' => ?_, k _ _ F2 w2 H2 q3 R2 (s1.trans s2) rfl⟩
      · have := depL_py xs nx
        show PyData.depthAll (Dt.pyL xs) + 1 ≤ 64
        omega
      · rw [pg] at h'
        cases e : xs[m]? with
        | none => rw [e] at h'; cases h'
        | some y' =>
          rw [e] at h'
          cases h'
          rw [← eqd_py]
          exact hno m y' hm e
    | _ => exact q1.elim⟩⟩
end
end DL

set_option Elab.async false
set_option linter.all false
set_option maxRecDepth 100000
set_option maxHeartbeats 4000000
namespace DL
open PySem L2
/-! ### evaluation at the root: what may raise -/
def onRef (x : Dt) (k : Addr → Prop) : Prop := match x with
  | .ref a => k a
  | _ => False
theorem onRef_r {a : Addr} {k : Addr → Prop} : onRef (.ref a) k = k a := rfl
section
variable {U : Wd} {ta tb : TD U} {xa xb : WXD U → TD U} {wx : WXD U} {ρ : Rho} {w : U.W} {Q : Dt → U.W → Prop} {QL : List Dt → U.W → Prop} {D : DEnds U} {i n m : Nat}
theorem ev_nextX : dNextX wx D ρ w = D.nx ρ w := rfl
theorem ev_seqX {t u : WXD U → TDS U} : dSeqX t u wx D ρ w = t wx { D with nx := u wx D } ρ w := rfl
theorem ev_ofX {t : TDS U} : (fun (_ : WXD U) => t) wx D ρ w = t D ρ w := rfl
theorem ev_iceX {t : WXD U → TDS U} : dIceX i t wx D ρ w = ownK ρ i fun xs => setK ρ i (some (.d (.lst xs))) fun ρ' => t wx D ρ' w := (show dIceX i t wx D ρ w = dIce i (t wx) D ρ w from by unfold dIceX dIce; rfl).trans ek_ice
theorem ev_ifX {c : TDT U} {t u : WXD U → TDS U} : dIfX c t u wx D ρ w = c ρ w fun k w1 => if k = true then t wx D ρ w1 else u wx D ρ w1 := rfl
theorem ev_raise {C : Addr} : dRaise (U := U) C wx D ρ w = wx C ρ w := rfl
theorem ev_calX {c : CtX U} {t : TDL U} : dCalX c t wx ρ w Q = t ρ w fun ds w1 => c ds w1 Q fun C w2 => wx C ρ w2 := rfl
theorem ev_calXK {c : CtX U} {t u : TDL U} : dCalXK n m c t u wx ρ w Q = t ρ w fun ds w1 => u ρ w1 fun es w2 => ds.length = n ∧ es.length = m ∧ c (ds ++ es) w2 Q fun C w3 => wx C ρ w3 := rfl
theorem ev_nilX : dNilX (U := U) wx ρ w QL = QL [] w := rfl
theorem ev_consX {t : WXD U → TDL U} : dConsX xa t wx ρ w QL = xa wx ρ w fun x w1 => t wx ρ w1 fun xs w2 => QL (x :: xs) w2 := rfl
theorem ev_tupX {t : WXD U → TDL U} : dTupX t wx ρ w Q = t wx ρ w fun xs w1 => xs.length ≤ sizeLine ∧ Q (.tup xs) w1 := rfl
theorem ek_setX : dSetX i xa wx D ρ w = xa wx ρ w fun x w1 => setK ρ i (some (.d x)) fun ρ' => D.nx ρ' w1 := rfl
theorem ev_retX : dRetX xa wx D ρ w = xa wx ρ w D.rt := rfl
theorem ev_asgX {g : TDG U} : dAsgX xa g wx D ρ w = xa wx ρ w fun x w1 => g x ρ w1 D.nx := rfl
theorem ev_ml {g : List Dt → Dt → (Dt → Prop) → Prop} : dML g ta tb ρ w Q = ta ρ w fun x w1 => onLst x fun xs => tb ρ w1 fun y w2 => g xs y fun z => Q z w2 := by
  unfold dML
  rfl
end
section
variable {K : PySem.W.Frag} {ta tb : TD UE} {ρ : Rho} {w : UE.W} {Q : Dt → UE.W → Prop} {D : DEnds UE} {i : Nat} {cv : Value}
theorem ev_try {tb : WXD UE → TDS UE} {ts : TDS UE} : dTry K cv i tb ts D ρ w = tb (fun C ρ' w' => PySem.W.exmOne K (.ref C) cv = some true ∧ ∀ a, setK ρ' i (some (.d (.ref a))) fun ρ3 => ts { nx := fun ρ2 w2 => setK ρ2 i none fun ρ4 => D.nx ρ4 w2, rt := D.rt, bk := fun ρ2 w2 => setK ρ2 i none fun ρ4 => D.bk ρ4 w2, ct := fun ρ2 w2 => setK ρ2 i none fun ρ4 => D.ct ρ4 w2 } ρ3 (addK w' a (.exc C))) D ρ w := rfl
theorem ev_isE : dIsE K cv ta ρ w Q = ta ρ w fun x w1 => onRef x fun a => ∃ C b, hasK w1 a (.exc C) ∧ ExcC K C ∧ PySem.W.kitOne K (.ref C) cv = some b ∧ Q (.bl b) w1 := by
  unfold dIsE
  rfl
theorem ev_tupP : dTupP K ta ρ w Q = ta ρ w fun x w1 => onLst x fun xs => ∀ a, Q (.ref a) (addK w1 a (.pl K xs)) := by
  unfold dTupP
  rfl
theorem ev_der : dDer K ta ρ w Q = ta ρ w fun x w1 => onRef x fun a => ∃ xs, hasK w1 a (.pl K xs) ∧ Q (.tup xs) w1 := by
  unfold dDer
  rfl
theorem ev_indP : dIndP K ta tb ρ w Q = ta ρ w fun x w1 => onRef x fun a => ∃ xs, hasK w1 a (.pl K xs) ∧ tb ρ w1 fun y w2 => gIndD xs y fun z => Q z w2 := by
  unfold dIndP
  rfl
end
/-! ### defs with keywords' defaults that may raise -/
section
variable {U : Wd} {P : Program} {wd : World} {K : PySem.W.Frag} {mg : Str → Option Value} {base : Heap}
theorem ok_defDX {x qual : Str} {params : Arguments} {body : List Stmt} {scope : Scope} {dvs : List V} {kws : List (Str × V)} {f : Addr} {fd : FuncData} {N ps : List Str} {k : Nat} {cc : CtX U} {td : WXD U → TDS U} (F : FunD K x qual params body scope dvs kws f fd) (S : FnScope N ps scope)
    (hb : ∀ (cdv : Value) (A : Around) (outer : List Env) (s : Shared) (H : Hp) (E : XK) (W : WX), Room k (A.deeper (PyProof.Rows.envOfC qual scope s.heap.objs.size f cdv)) → Takes (cxOf (L2.CX P wd) P wd K mg base N qual scope f cdv A outer s H E) W → DSsx (cxOf (L2.CX P wd) P wd K mg base N qual scope f cdv A outer s H E) U W body td)
    (hl : ∀ ds w Q Qx, cc ds w Q Qx → ds.length = ps.length)
    (hq : ∀ ds w Q Qx, cc ds w Q Qx → td (fun C _ w' => Qx C w') { nx := fun _ w' => Q .non w', rt := Q } (startR N ds) w) : FnOk P wd K mg base (L2.CX P wd) (k + 1) f fd ps (spOfX U K cc) := by
  have hpl : ps.length ≤ N.length := by have := congrArg List.length S.pre; rw [List.length_take] at this; omega
  refine F.ok S (fun vs H Q E h => ?_) fun cdv A outer s H vs Q E hr h => ?_
  · obtain ⟨F0, w, ds, Qd, Qx, _, _, d, c, _⟩ := h
    rw [d.length]; exact hl _ _ _ _ c
  · obtain ⟨F0, w, ds, Qd, Qx, fh, rp, d, c, k1, k2⟩ := h
    have dl := hl _ _ _ _ c
    have tk : Takes (cxOf (L2.CX P wd) P wd K mg base N qual scope f cdv A outer s H E) (fun cls d _ H => E cls d H) := takes_of rfl rfl rfl rfl
    refine ⟨_, (hb cdv A outer s H E _ hr tk).run ⟨F0, H, w⟩, F0, startR N ds, w, _, _, rel_start fh rp d (by omega), hq ds w _ _ c, ?_, ?_⟩
    · exact ⟨fun F' ρ' w' σ' H' q R s => k1 .non .non F' w' H' q R.bas rfl, fun x v F' w' H' q B s d => k1 x v F' w' H' q B d, fun F' ρ' w' σ' H' q R s => q.elim, fun F' ρ' w' σ' H' q R s => q.elim⟩
    · exact ⟨fun C F' ρ' w' σ' H' q R s => k2 C F' w' H' q R.bas⟩
end
/-! ### the same, K told -/
section
variable {X : Cx} {K : PySem.W.Frag} {a b : Expr} {ta tb : TD UE} {p2 p3 pos : Pos}
theorem de_tupleP' (hK : X.K = K) (hg : Gl X "tuple") (hm : X.mg "tuple" = none) (ha : DE X UE a ta) (hs : starEach [a] X.env = [(false, eval a X.env)] := by rfl) (hpl : (backTo pos (starEach [] X.env)).any (·.1) = false := by rfl) :
    DE X UE (.Call (.Name "tuple" p2) [a] [] pos) (dTupP K ta) := by subst hK; exact de_tupleP hg hm ha hs hpl
theorem de_der' (hK : X.K = K) (ha : DE X UE a ta) : DE X UE a (dDer K ta) := by subst hK; exact de_der ha
theorem de_indexP' {apos cpos : Pos} (hK : X.K = K) (hu : X.A.units + 65 < cLine) (ha : DE X UE a ta) (hb : DE X UE b tb) (hbase : attributeBase a "index" X.env (eval a X.env) = eval a X.env := by rfl)
    (hfew : ((backTo cpos (starEach [b] X.env)).all (fun x => !x.1) && (backToKw cpos (keywordEach [] X.env)).all (fun x => x.1.isSome) && decide ([b].length + ([] : List Keyword).length + (if ([] : List Keyword).isEmpty then 0 else 1) < 30)) = true := by rfl)
    (hline : (apos.endLine == cpos.line) = true := by rfl) (hs : starEach [b] X.env = [(false, eval b X.env)] := by rfl) (hpl : (backTo cpos (starEach [] X.env)).any (·.1) = false := by rfl) :
    DE X UE (.Call (.Attribute a "index" apos) [b] [] cpos) (dIndP K ta tb) := by subst hK; exact de_indexP hu ha hb hbase hfew hline hs hpl
theorem de_isE' {T : Str} {C : Addr} (hK : X.K = K) (hg : Gl X "isinstance") (hm : X.mg "isinstance" = none) (hgT : Gl X T) (hmT : X.mg T = some (.ref C)) (ha : DE X UE a ta)
    (hdb : (T == ("__debug__" : Str)) = false := by decide) (hs : starEach [a, .Name T p3] X.env = [(false, eval a X.env), (false, eval (.Name T p3) X.env)] := by rfl)
    (hs2 : starEach [.Name T p3] X.env = [(false, eval (.Name T p3) X.env)] := by rfl) (hpl : (backTo pos (starEach [.Name T p3] X.env)).any (·.1) = false := by rfl) :
    DE X UE (.Call (.Name "isinstance" p2) [a, .Name T p3] [] pos) (dIsE K (.ref C) ta) := by subst hK; exact de_isE hg hm hgT hmT ha hdb hs hs2 hpl
theorem de_isEb' {T : Str} {Tn : String} (hK : X.K = K) (hg : Gl X "isinstance") (hm : X.mg "isinstance" = none) (hgT : Gl X T) (hmT : X.mg T = none) (hvT : bootBuiltins T = some (.type Tn)) (ha : DE X UE a ta)
    (hn : T ≠ "__name__" := by decide) (hdb : (T == ("__debug__" : Str)) = false := by decide) (hs : starEach [a, .Name T p3] X.env = [(false, eval a X.env), (false, eval (.Name T p3) X.env)] := by rfl)
    (hs2 : starEach [.Name T p3] X.env = [(false, eval (.Name T p3) X.env)] := by rfl) (hpl : (backTo pos (starEach [.Name T p3] X.env)).any (·.1) = false := by rfl) :
    DE X UE (.Call (.Name "isinstance" p2) [a, .Name T p3] [] pos) (dIsE K (.type Tn) ta) := by subst hK; exact de_isEb hg hm hgT hmT hvT ha hn hdb hs hs2 hpl
theorem ds_try' {x n : Str} {c : Value} {i : Nat} {body suite : List Stmt} {b₀ : Stmt} {np pos' : Pos} {tb : WXD UE → TDS UE} {ts : TDS UE} (hK : X.K = K) (hex : X.ex = []) (hs : X.stack = X.env :: X.outer) (hf : X.env.frame = some X.env.locals) (hN : X.N.Nodup) (hi : X.N[i]? = some n) (hln : X.env.kindOf n = some .local) (hc : Names X x c)
    (hb : ∀ (W : WX) (pn : List (Addr × Obj)) (xe : Value → Shared → Prop), Takes (X.tr pn xe) W → PassesOwn (model X.prog X.w) X.A X.env xe → DSsx (X.tr pn xe) UE W body tb)
    (hsu : ∀ (a : Addr) (pn : List (Addr × Obj)), DSs (X.suite a pn) UE (b₀ :: suite) ts) :
    DS X UE (.Try body [.ExceptHandler (some (.Name x np)) (some n) (b₀ :: suite) pos'] [] [] pos) (dTry K c i tb ts) := by subst hK; exact ds_try hex hs hf hN hi hln hc hb hsu
end
end DL

set_option Elab.async false
set_option linter.all false
set_option maxRecDepth 100000
set_option maxHeartbeats 4000000
namespace DL
open PySem L2
/-! ### what the head's heap says of the exception classes -/
def gaC (K : PySem.W.Frag) (x : Str) : Addr := match PySem.W.nsIn K mainGlobals x with
  | some (some (.ref a)) => a
  | _ => 0
def clsB (K : PySem.W.Frag) (x : Str) : Bool := match PySem.W.nsIn K mainGlobals x with
  | some (some (.ref _)) => true
  | _ => false
theorem clsB_ok {K : PySem.W.Frag} {h : Heap} {mg : Str → Option Value} (X : K.In h) (G : h.Ns mainGlobals mg) {x : Str} (c : clsB K x = true) : mg x = some (.ref (gaC K x)) := by
  unfold clsB at c
  unfold gaC
  split at c
  · rename_i a q
    exact PySem.W.mg_of X G q
  · cases c
def mkB (K : PySem.W.Frag) (x : Str) : Bool := clsB K x && (PySem.W.excIn K (gaC K x) [.type "ValueError", .type "Exception", .type "BaseException", .type "object"] "ValueError.__new__" && (PySem.W.keepIn K (.ref (gaC K x)) && (PySem.W.subIn K (.ref (gaC K x)) (.type "BaseException") == some true && PySem.W.typeIn K (.ref (gaC K x)) == some (.type "type"))))
theorem mkB_ok {K : PySem.W.Frag} {h : Heap} {mg : Str → Option Value} (X : K.In h) (G : h.Ns mainGlobals mg) {x : Str} (c : mkB K x = true) : ExcMk K mg x (gaC K x) := by
  unfold mkB at c
  simp only [Bool.and_eq_true, beq_iff_eq] at c
  obtain ⟨c1, c2, c3, c4, c5⟩ := c
  exact ⟨c2, clsB_ok X G c1, c3, c4, c5⟩
def excB (K : PySem.W.Frag) (D : Addr) : Bool := PySem.W.findIn K (.ref D) "__getattribute__" == some (some (.builtin "BaseException.__getattribute__")) && (PySem.W.findIn K (.ref D) "__getattr__" == some none && (PySem.W.subIn K (.ref D) (.type "BaseException") == some true && (PySem.W.hasDictIn K D && (PySem.W.findIn K (.ref D) "__class__" == some (some (.builtin "object.__class__")) && (PySem.W.specialIn K (.builtin "object.__class__") "__get__" == some (some (.builtin "getset_descriptor.__get__")) && (PySem.W.takesIn K (.builtin "object.__class__") == some true && PySem.W.mroIn K D (.type "object") == some true))))))
theorem excB_ok {K : PySem.W.Frag} {D : Addr} (c : excB K D = true) : ExcC K D := by
  unfold excB at c
  simp only [Bool.and_eq_true, beq_iff_eq] at c
  obtain ⟨c1, c2, c3, c4, c5, c6, c7, c8⟩ := c
  exact ⟨c1, c2, c3, c4, c5, c6, c7, c8⟩
def kitsB (K : PySem.W.Frag) (C : Value) : List (Addr × Bool) → Bool
  | [] => true
  | p :: ps => PySem.W.kitOne K C (.ref p.1) == some p.2 && kitsB K C ps
theorem kitsB_ok {K : PySem.W.Frag} {C : Value} : ∀ {ps : List (Addr × Bool)}, kitsB K C ps = true → ∀ p ∈ ps, PySem.W.kitOne K C (.ref p.1) = some p.2
  | [], _, p, hp => by cases hp
  | q :: ps, c, p, hp => by
    unfold kitsB at c
    simp only [Bool.and_eq_true, beq_iff_eq] at c
    rcases List.mem_cons.mp hp with rfl | hp
    · exact c.1
    · exact kitsB_ok c.2 p hp
def exmB (K : PySem.W.Frag) (C D : Addr) : Bool := PySem.W.exmOne K (.ref C) (.ref D) == some true
theorem exmB_ok {K : PySem.W.Frag} {C D : Addr} (c : exmB K C D = true) : PySem.W.exmOne K (.ref C) (.ref D) = some true := beq_iff_eq.mp c
/-- what is known of the class of an exception: which of the classes it is -/
structure RefK (K : PySem.W.Frag) (C : Addr) (cs : List Addr) (mine : List Bool) (told asked : Addr) (tb ab : Bool) : Prop where
  exc : ExcC K C
  all : ∀ (i : Nat) (D : Addr) (b : Bool), cs[i]? = some D → mine[i]? = some b → PySem.W.kitOne K (.ref C) (.ref D) = some b
  val : PySem.W.kitOne K (.ref C) (.type "ValueError") = some true
  told : PySem.W.kitOne K (.ref C) (.ref told) = some tb
  asked : PySem.W.kitOne K (.ref C) (.ref asked) = some ab
def refB (K : PySem.W.Frag) (C : Addr) (cs : List Addr) (mine : List Bool) (told asked : Addr) (tb ab : Bool) : Bool := excB K C && (kitsB K (.ref C) (cs.zip mine) && (PySem.W.kitOne K (.ref C) (.type "ValueError") == some true && (PySem.W.kitOne K (.ref C) (.ref told) == some tb && PySem.W.kitOne K (.ref C) (.ref asked) == some ab)))
theorem refB_ok {K : PySem.W.Frag} {C : Addr} {cs : List Addr} {mine : List Bool} {told asked : Addr} {tb ab : Bool} (c : refB K C cs mine told asked tb ab = true) : RefK K C cs mine told asked tb ab := by
  unfold refB at c
  simp only [Bool.and_eq_true, beq_iff_eq] at c
  obtain ⟨c1, c2, c3, c4, c5⟩ := c
  refine ⟨excB_ok c1, fun i D b h1 h2 => ?_, c3, c4, c5⟩
  have := kitsB_ok c2 (D, b) (List.mem_of_getElem? (i := i) (by rw [List.getElem?_zip_eq_some]; exact ⟨h1, h2⟩))
  exact this
end DL

set_option Elab.async false
set_option linter.all false
set_option maxRecDepth 100000
set_option maxHeartbeats 4000000
namespace DL
open PySem L2
/-! ### f'..' -/
section
variable {X : Cx} {U : Wd} {a : Expr} {ta : TD U} {pos : Pos}
def gFmt (x : Dt) (Q : Dt → Prop) : Prop := match x with
  | .str y => y.length ≤ sizeLine ∧ Q (.str y)
  | .int i => i.natAbs.log2 < 1920 ∧ PyData.strOk (toString i : String) = true ∧ Q (.str (toString i : String))
  | _ => False
theorem de_fmt (ha : DE X U a ta) : DE X U (.FormattedValue a (-1) none pos) (dUn gFmt ta) := ⟨fun e => (pe_fmt (ha.run e)).weak fun σ H Q ⟨F, ρ, w, Q', R, q, k⟩ => ⟨F, ρ, w, _, R, q, fun x v F1 w1 H1 q1 R1 s1 d1 => by
  cases x with
  | str y =>
    obtain ⟨e1, ok⟩ := d1
    exact .inl ⟨y, e1, q1.1, k _ _ F1 w1 H1 q1.2 R1 s1 ⟨rfl, ok⟩⟩
  | int i =>
    cases (show v = .int i from d1)
    exact .inr ⟨i, rfl, q1.1, k _ _ F1 w1 H1 q1.2.2 R1 s1 ⟨rfl, q1.2.1⟩⟩
  | _ => exact q1.elim⟩⟩
inductive DJ (X : Cx) (U : Wd) : List Expr → List (TD U) → Prop where
  | nil : DJ X U [] []
  | cons {e : Expr} {t : TD U} {es : List Expr} {ts : List (TD U)} (h : DE X U e t) (r : DJ X U es ts) : DJ X U (e :: es) (t :: ts)
def dJs : List (TD U) → Str → Rho → U.W → (Str → U.W → Prop) → Prop
  | [], acc, _, w, Q => Q acc w
  | t :: ts, acc, ρ, w, Q => t ρ w fun x w1 => onStr x fun y => (acc ++ y).length ≤ sizeLine ∧ dJs ts (acc ++ y) ρ w1 Q
theorem up_js {K : PySem.W.Frag} {e : Ent U} {ρ : Rho} {σ : St} {Qs : Str → Hp → Prop} : ∀ (ts : List (TD U)) (acc : Str) (F : Hp) (w : U.W) (H : Hp) (Q' : Str → U.W → Prop), Rel U K e F ρ w σ H → PyData.strOk acc = true → dJs ts acc ρ w Q' →
    (∀ out F' w' H', Q' out w' → Rel U K e F' ρ w' σ H' → Same F F' → PyData.strOk out = true → Qs out H') → tJs (ts.map (up U K e)) acc σ H Qs
  | [], acc, F, w, H, Q', R, ok, q, k => k acc F w H q R (Same.refl _) ok
  | t :: ts, acc, F, w, H, Q', R, ok, q, k => ⟨F, ρ, w, _, R, q, fun x v F1 w1 H1 q1 R1 s1 d1 => by
    cases x with
    | str y =>
      obtain ⟨e1, oy⟩ := d1
      exact ⟨y, e1, q1.1, up_js ts _ F1 w1 H1 Q' R1 (strOk_append ok oy) q1.2 fun out F' w' H' q' R' s' ok' => k out F' w' H' q' R' (s1.trans s') ok'⟩
    | _ => exact q1.elim⟩
theorem DJ.pj {es : List Expr} {ts : List (TD U)} (h : DJ X U es ts) (e : Ent U) : PJ X es (ts.map (up U X.K e)) := by
  induction h with
  | nil => exact .nil
  | cons h r ih => exact .cons (h.run e) ih
def dJoin (ts : List (TD U)) : TD U := fun ρ w Q => dJs ts Str.empty ρ w fun out w1 => Q (.str out) w1
theorem de_joined {v1 v2 : Expr} {rest : List Expr} {ts : List (TD U)} (h : DJ X U (v1 :: v2 :: rest) ts) : DE X U (.JoinedStr (v1 :: v2 :: rest) pos) (dJoin ts) :=
  ⟨fun e => (pe_joined (h.pj e)).weak fun σ H Q ⟨F, ρ, w, Q', R, q, k⟩ => up_js ts _ F w H _ R (by decide +kernel) q fun out F' w' H' q' R' s' ok => k (.str out) (.str out) F' w' H' q' R' s' ⟨rfl, ok⟩⟩
end
section
variable {U : Wd} {ts : List (TD U)} {t ta : TD U} {ρ : Rho} {w : U.W} {Q : Dt → U.W → Prop} {QS : Str → U.W → Prop} {acc : Str} {QD : Dt → Prop}
theorem ev_join : dJoin ts ρ w Q = dJs ts Str.empty ρ w fun out w1 => Q (.str out) w1 := rfl
theorem ev_jsN : dJs [] acc ρ w QS = QS acc w := rfl
theorem ev_jsC : dJs (t :: ts) acc ρ w QS = t ρ w fun x w1 => onStr x fun y => (acc ++ y).length ≤ sizeLine ∧ dJs ts (acc ++ y) ρ w1 QS := rfl
theorem g_FmtS {y : Str} : gFmt (.str y) QD = (y.length ≤ sizeLine ∧ QD (.str y)) := rfl
theorem g_FmtI {i : Int} : gFmt (.int i) QD = (i.natAbs.log2 < 1920 ∧ PyData.strOk (toString i : String) = true ∧ QD (.str (toString i : String))) := rfl
end
end DL
/-! ### a text so many times -/
namespace L2
open PySem PySem.Spec PyProof.Rows
def repS (s : Str) (n : Int) : Str := ⟨(List.replicate n.toNat s.cps).foldl (· ++ ·) #[]⟩
theorem op_mulS {X : Cx} : OpR X (binaryOp .Mult) (fun x y H Q => ∃ (s : Str) (n : Int), x = .str s ∧ y = .int n ∧ (2 ≤ n ∧ n ≤ 1000) ∧ (1 ≤ s.length ∧ s.length ≤ 1000) ∧ (repS s n).length ≤ sizeLine ∧ Q (.str (repS s n)) H) := by
  intro pins st σ H x y v u Q I rx ry h
  obtain ⟨s, n, rfl, rfl, ⟨h1, h2⟩, ⟨h3, h4⟩, hl, q⟩ := h
  obtain ⟨t, rfl⟩ := rx
  obtain ⟨k, rfl⟩ := ry
  have e : (n == 1 || s.length == 0) = false := by
    rw [Bool.or_eq_false_iff]
    exact ⟨beq_false_of_ne (by omega), beq_false_of_ne (by omega)⟩
  have m : (s.length : Int) * n ≤ 1000 * 1000 := Int.mul_le_mul (by omega) h2 (by omega) (by decide)
  have m2 : s.length * n.toNat ≤ 1000 * 1000 := Nat.mul_le_mul h4 (by omega)
  refine P.mul_str (by rw [Bool.or_eq_false_iff]; exact ⟨decide_eq_false (by omega), decide_eq_false (by omega)⟩) (fun _ _ => ?_) (fun _ _ => ?_) ?_
  · have : (s.length : Int) ≤ (2 ^ 63 - 1) / n := Int.le_ediv_of_mul_le (by omega) (by omega)
    omega
  · have := sizeLine_eq
    unfold Builtin.Str.tooLong
    exact decide_eq_false (by omega)
  · rw [if_neg (by omega), e, if_neg Bool.false_ne_true]
    exact ⟨hl, .str (repS s n), H, I.tok _, ⟨_, rfl⟩, q⟩
end L2
namespace DL
open PySem L2
section
variable {X : Cx} {U : Wd} {a b : Expr} {ta tb : TD U} {pos : Pos}
def gMulS (x y : Dt) (Q : Dt → Prop) : Prop := match x, y with
  | .str s, .int n => (2 ≤ n ∧ n ≤ 1000) ∧ (1 ≤ s.length ∧ s.length ≤ 1000) ∧ (repS s n).length ≤ sizeLine ∧ PyData.strOk (repS s n) = true ∧ Q (.str (repS s n))
  | _, _ => False
theorem de_mulS (ha : DE X U a ta) (hb : DE X U b tb) : DE X U (.BinOp a .Mult b pos) (dOp gMulS ta tb) := ⟨fun e => (pe_op op_mulS (ha.run e) (hb.run e)).weak fun σ H Q ⟨F, ρ, w, Q', R, q, k⟩ => ⟨F, ρ, w, _, R, q, fun x v F1 w1 H1 q1 R1 s1 d1 => ⟨F1, ρ, w1, _, R1, q1, fun y u F2 w2 H2 q2 R2 s2 d2 => by
  unfold gMulS at q2
  split at q2
  · rename_i s n
    obtain ⟨e1, _⟩ := d1
    cases (show u = .int n from d2)
    exact ⟨s, n, e1, rfl, q2.1, q2.2.1, q2.2.2.1, k _ _ F2 w2 H2 q2.2.2.2.2 R2 (s1.trans s2) ⟨rfl, q2.2.2.2.1⟩⟩
  · exact q2.elim⟩⟩⟩
end
theorem g_MulS {s : Str} {n : Int} {Q : Dt → Prop} : gMulS (.str s) (.int n) Q = ((2 ≤ n ∧ n ≤ 1000) ∧ (1 ≤ s.length ∧ s.length ≤ 1000) ∧ (repS s n).length ≤ sizeLine ∧ PyData.strOk (repS s n) = true ∧ Q (.str (repS s n))) := rfl
end DL

set_option Elab.async false
set_option linter.all false
set_option maxRecDepth 100000
namespace DL
open PySem L2
theorem ok_parts {x y : Str} (h : PyData.strOk (x ++ y) = true) : PyData.strOk x = true ∧ PyData.strOk y = true := by
  have := strOk_all h
  have e : (x ++ y).cps.toList = x.cps.toList ++ y.cps.toList := by
    show (x.cps ++ y.cps).toList = _
    rw [Array.toList_append]
  rw [e] at this
  exact ⟨strOk_of fun c hc => this c (List.mem_append.mpr (.inl hc)), strOk_of fun c hc => this c (List.mem_append.mpr (.inr hc))⟩
theorem ok_joined (y : Str) : ∀ ts : List Str, PyData.strOk (Str.join y ts) = true → ∀ t ∈ ts, PyData.strOk t = true
  | [], _, _, h => by cases h
  | [x], h, t, ht => by cases List.mem_singleton.mp ht; exact h
  | x :: z :: r, h, t, ht => by
    have h : PyData.strOk (x ++ y ++ Str.join y (z :: r)) = true := h
    obtain ⟨h1, h2⟩ := ok_parts h
    rcases List.mem_cons.mp ht with rfl | ht
    · exact (ok_parts h1).1
    · exact ok_joined y (z :: r) h2 t ht
theorem ok_splitted {x : Str} (y : Str) (h : PyData.strOk x = true) : ∀ t ∈ Txt.split x y, PyData.strOk t = true :=
  ok_joined y _ (by rw [StrLaws.join_split]; exact h)
section
variable {X : Cx} {U : Wd} {a b : Expr} {ta tb : TD U}
/-- x.split(sep) -/
def dSplit2 (ta tb : TD U) : TDL U := fun ρ w Q => ta ρ w fun x w1 => match x with
  | .str a => tb ρ w1 fun y w2 => match y with
    | .str b => ((b.length == 0) = false ∧ a.length + 2 ≤ sizeLine) ∧ Q ((Txt.split a b).map Dt.str) w2
    | _ => False
  | _ => False
theorem df_split2 {apos pos : Pos} (ha : DB X U a ta) (hb : DB X U b tb) (hs : starEach [b] X.env = [(false, eval b X.env)] := by rfl) (hbase : attributeBase a "split" X.env (eval a X.env) = eval a X.env := by rfl) (hline : (apos.endLine == pos.line) = true := by rfl) :
    DF X U (.Call (.Attribute a "split" apos) [b] [] pos) (dSplit2 ta tb) :=
  ⟨fun e => (pe_split (ha.run e) (hb.run e) hs hbase hline).weak fun σ H Q ⟨F, ρ, w, Q', R, q, k⟩ => ⟨F, ρ, w, _, R, q, fun x v F1 w1 H1 q1 R1 s1 b1 => by
    cases x with
    | str a =>
      obtain ⟨e1, oa⟩ := b1.str
      refine ⟨⟨a, e1⟩, F1, ρ, w1, _, R1, q1, fun y u F2 w2 H2 q2 R2 s2 b2 => ?_⟩
      cases y with
      | str b =>
        obtain ⟨e2, ob⟩ := b2.str
        obtain ⟨⟨z1, z2⟩, q2⟩ := q2
        refine ⟨a, b, e1, by rw [e2], z1, z2, fun p hp => ?_⟩
        obtain ⟨R3, f3⟩ := R2.mine hp ((Txt.split a b).map V.str)
        exact k _ p _ F2 w2 _ q2 R3 (s1.trans s2) f3 (DinL.of_strs _ (ok_splitted b oa))
      | _ => exact q2.elim
    | _ => exact q1.elim⟩⟩
variable {ρ : Rho} {w : U.W} {QL : List Dt → U.W → Prop}
theorem ev_split2 : dSplit2 ta tb ρ w QL = ta ρ w fun x w1 => onStr x fun a => tb ρ w1 fun y w2 => onStr y fun b => ((b.length == 0) = false ∧ a.length + 2 ≤ sizeLine) ∧ QL ((Txt.split a b).map Dt.str) w2 := rfl
end
end DL

set_option Elab.async false
set_option linter.all false
set_option maxRecDepth 100000
set_option maxHeartbeats 4000000
namespace DL
open PySem L2 LamX PyProof.Rows
/-! ### lambda x: (len(x[0]), x[1]), called: the key -/
section
variable {prog : Program} {w : World} {A : Around} {s : Shared}
theorem sub_tup {M : Model} {prog : Program} {w : World} {A : Around} {E : Value → Shared → Prop} {s : Shared} {t : Addr} {items : Array Value} {k : Int} {u : Tok} {j : Nat} {x : Value} {Q : Value → Shared → Prop} (ht : IsTup s.heap t items)
    (hlo : -(2 ^ 63) ≤ k) (hhi : k < 2 ^ 63) (hj : seqIndex? k items.size = some j) (hx : items[j]? = some x) (h : Q x s) : SubscriptOn (model prog w) A (.ref t) (.int k u) Q E s :=
  ⟨"tuple", _, slot_tuple_getitem.lookup, ht.typeIs, getItem_tuple ht hlo hhi hj hx h⟩
/-- a new tuple of two numbers -/
def KeyNew (l d : Int) (s₁ : Shared) (v : Value) (s₂ : Shared) : Prop := ∃ h' tk c t0 t1, s₂ = { s₁ with heap := h', toks := tk } ∧ (∀ b o, s₁.heap.get? b = some o → h'.get? b = some o) ∧ v = .ref c ∧ s₁.heap.get? c = none ∧ IsTup h' c #[.int l t0, .int d t1]
theorem lam_row {f p c' : Addr} {x q st : Str} {d : Int} {t0 t1 : Tok} {params : Arguments} {scope : Scope} {p1 p2 p3 p4 p5 p6 p7 p8 p9 : Pos} {k k1 k2 : Nat} {pm ctv : Value} {mg mb : Str → Option Value} {vs : List Value}
    (S : LenS scope x) (hroom : A.depth < recursionLimit) (lim : s.heap.NoLimit) (hg : s.heap.Ns mainGlobals mg) (hml : mg "len" = none) (hb : s.heap.Ns builtinsNs mb) (hbl : mb "len" = some (.builtin "len"))
    (ho : s.heap.get? f = some (PySem.W.kla_obj "<lambda>" q params (.Tuple [.Call (.Name "len" p1) [.Subscript (.Name x p2) (.Constant (.int 0) k1 p6) p7] [] p3, .Subscript (.Name x p4) (.Constant (.int 1) k2 p8) p9] k p5) scope [] pm c' ctv)) (hcd : s.heap.CodeRec (.ref c') q)
    (hbind : ∀ u, bindArgs (PySem.W.kla_fn "<lambda>" q params (.Tuple [.Call (.Name "len" p1) [.Subscript (.Name x p2) (.Constant (.int 0) k1 p6) p7] [] p3, .Subscript (.Name x p4) (.Constant (.int 1) k2 p8) p9] k p5) scope [] pm (.ref c') ctv) ⟨[u], []⟩ = pure [(x, u)])
    (ht : IsTup s.heap p (Value.str st t0 :: Value.int d t1 :: vs).toArray) (hz : st.length ≤ sizeLine) :
    wpAny (model prog w) A (call (.ref f) [.ref p]) (KeyNew st.length d s) (fun _ _ => False) s := by
  refine wpAny_call (PySem.W.kla_callFunE hroom ho rfl S.co S.gen rfl hcd ?_)
  rw [hbind]
  refine wpAny_pure (wpAny_newFunctionEnv S.cell (fun y hy => ?_) (fun h₁ hns hsb => ⟨lim.fresh _ hsb, ?_⟩) S.kind)
  · cases List.mem_singleton.mp hy; exact S.own
  have kp : ∀ b o, s.heap.get? b = some o → h₁.get? b = some o := fun b o e => hsb.extBut b o (Nat.ne_of_lt (Heap.lt_size e)) (Heap.get?_push_of_some _ e)
  show codeAny _ _ (.expr _ (PySem.W.envX q scope s.heap.objs.size f (.ref c') [])) _ _
  have x1 : InCall s s.heap.objs.size (fun y => [(x, Value.ref p)].reverse.lookup y) { s with heap := h₁, toks := s.toks + [(x, Value.ref p)].length } := ⟨⟨_, _, rfl⟩, hns, kp, Nat.le_refl _⟩
  have lookx : ([(x, Value.ref p)].reverse.lookup x) = some (.ref p) := by
    show (match x == x with | true => some _ | false => _) = _
    rw [beq_self_eq_true]
  have var : ∀ {pos : Pos} {s1 : Shared} {A' : Around} {E : Value → Shared → Prop} {Q : Value → Shared → Prop}, s1.heap.Ns s.heap.objs.size (fun y => [(x, Value.ref p)].reverse.lookup y) → Q (.ref p) s1 →
      wpAny (model prog w) A' (eval (.Name x pos) (PySem.W.envX q scope s.heap.objs.size f (.ref c') [])) Q E s1 := fun hn h =>
    wpAny_Name (wpAny_loadName_local S.kind S.own hn lookx h) S.dbg
  have ht1 : IsTup h₁ p (Value.str st t0 :: Value.int d t1 :: vs).toArray := by
    obtain ⟨o, h1, h2⟩ := ht
    exact ⟨o, kp _ _ h1, h2⟩
  have hs : sizeLine = 16777216 := sizeLine_eq
  refine PySem.W.kla_codeExpr ?_
  refine wpAny_Tuple ?_
  refine Calls.spliced_cons (wpAny_mono (call_builtin1I x1 S.kind S.len (by decide) hg hml hb hbl rfl (wpAny_Subscript_Constant_late (var hns (wpAny_Constant_int (sub_tup (M := model prog w) ht1 (by decide) (by decide) (j := 0) (x := .str st t0) (by simp [seqIndex?]; omega) (by simp) ?_))))) (fun v s1 h1 => h1) fun _ _ e => e)
  refine len_str (by omega) ?_
  refine Calls.spliced_cons (wpAny_Subscript_Constant_late (var hns (wpAny_Constant_int (sub_tup (M := model prog w) ht1 (by decide) (by decide) (j := 1) (x := .int d t1) (by simp [seqIndex?]; omega) (by simp) ?_))))
  refine Calls.spliced_nil ?_
  refine ⟨by rw [hs]; show 2 ≤ 16777216; decide, ?_⟩
  refine ⟨_, _, _, _, _, rfl, fun b o e => Heap.get?_push_of_some _ (kp b o e), rfl, ?_, ⟨_, Heap.get?_push_size _ rfl, rfl, _, rfl⟩⟩
  cases c : s.heap.get? h₁.objs.size with
  | none => rfl
  | some o => exact absurd (Heap.lt_size (kp _ _ c)) (Nat.lt_irrefl _)
end
end DL
/-! ### max(x, y, key=f) -/
namespace DL
open PySem L2 LamX PyProof.Rows
theorem args_max2_key (a b v : Value) : argsOk "max" ⟨[a, b], [(Str.ofString "key", v)]⟩ := by unfold argsOk; kernel_rfl
section
variable {prog : Program} {w : World} {A : Around} {E : Value → Shared → Prop} {s : Shared}
def keyI (l d : Int) : PyData := .tuple [.int l, .int d]
theorem max_two_key {a b : Value} {f : Addr} {la da lb db : Int} {Q : Value → Shared → Prop} (hh : A.handled = none) (hu : A.in1.units + 4 < cLine)
    (turn : ∀ (v : Value) (l d : Int), (v = a ∧ l = la ∧ d = da) ∨ (v = b ∧ l = lb ∧ d = db) → ∀ (h : Heap) (tk : Nat), (∀ b o, s.heap.get? b = some o → h.get? b = some o) →
      wpAny (model prog w) A.in1 (call (.ref f) [v]) (KeyNew l d { s with heap := h, toks := tk }) (fun _ _ => False) { s with heap := h, toks := tk })
    (h : ∀ h' tk, (∀ b o, s.heap.get? b = some o → h'.get? b = some o) → Q (if PySem.W.dataLt (keyI la da) (keyI lb db) = true then b else a) { s with heap := h', toks := tk }) :
    wpAny (model prog w) A (call (.builtin "max") [a, b] [(Str.ofString "key", .ref f)]) Q E s := by
  have hname : (toString "max" ++ toString ".loop" : String) = "max.loop" := by decide
  refine PyProof.Rows.kmk_tree PySem.F.kind_max PySem.F.plain_max PySem.F.entry_max (args_max2_key _ _ _) ?_
  show wpAny _ A.in1 (Builtin.Builtins.bindParams "max" ["key", "default"] 0 ⟨[], [(Str.ofString "key", .ref f)]⟩ >>= _) _ _ s
  refine wpAny_bind (wpAny_of_eq (show Builtin.Builtins.bindParams "max" ["key", "default"] 0 ⟨[], [(Str.ofString "key", .ref f)]⟩ = pure [some (.ref f), none] from rfl) ?_)
  show wpAny _ A.in1 (newTuple [a, b] >>= _) _ _ s
  refine wpAny_bind (wpAny_newObj_type ?_)
  let s1 : Shared := { s with heap := s.heap.push { cls := .type "tuple", data := .seq #[a, b] }, toks := s.toks }
  have hT : s1.heap.IsTuple s.heap.objs.size #[a, b] := ⟨_, Heap.get?_push_size _ rfl, rfl, 0, rfl⟩
  have hsz : s1.heap.objs.size = s.heap.objs.size + 1 := Heap.size_push ..
  refine wpAny_bind (wpAny_pyIter_tuple hT ?_)
  show wpAny _ A.in1 _ _ _ _
  refine wpAny_bind (wpAny_newObj_type ?_)
  let T : Addr := s.heap.objs.size
  let I : Addr := s1.heap.objs.size
  let s2 : Shared := { s1 with heap := s1.heap.push { cls := .type "tuple_iterator", data := .fields #[.ref T, .int 0 0] } }
  let S : Addr := s2.heap.objs.size
  let s3 : Shared := { s2 with heap := s2.heap.push { cls := .type "list", data := .seq #[] 0 } }
  have hIz : I = T + 1 := hsz
  have hSz : S = T + 2 := by show (s1.heap.push _).objs.size = _; rw [Heap.size_push, hsz]
  have W := (Walks.tuple (prog := prog) (w := w) (A := A.in1) hh I T (by rw [hIz]; exact Nat.ne_of_lt (Nat.lt_succ_self _)) #[a, b]).toS
  let ke : Nat → Int × Int := fun i => if i = 0 then (la, da) else (lb, db)
  let J : Shared → Prop := fun s' => ∃ h tk, s' = { s with heap := h, toks := tk } ∧ ∀ b o, s.heap.get? b = some o → h.get? b = some o
  let V : Nat → Value → Shared → Prop := fun i k s' => ∃ c t0 t1, k = .ref c ∧ c ≠ S ∧ c ≠ I ∧ IsTup s'.heap c #[.int (ke i).1 t0, .int (ke i).2 t1]
  let bt : Nat → Nat → Bool := fun i j => PySem.W.dataLt (keyI (ke j).1 (ke j).2) (keyI (ke i).1 (ke i).2)
  have lt : ∀ {b o}, s.heap.get? b = some o → b ≠ S ∧ b ≠ I := fun {b o} e => by
    have : b < T := Heap.lt_size e
    exact ⟨Nat.ne_of_lt (by rw [hSz]; exact Nat.lt_succ_of_lt (Nat.lt_succ_of_lt this)), Nat.ne_of_lt (by rw [hIz]; exact Nat.lt_succ_of_lt this)⟩
  have nin : ∀ {b : Addr}, b ≠ S → b ≠ I → b ∉ S :: [I] := fun {b} h1 h2 z => by
    simp only [List.mem_cons, List.not_mem_nil, or_false] at z
    exact z.elim h1 h2
  have K : KeyRun prog w A.in1 (.ref f) .Gt S [I] (fun a b => b = a) (#[a, b] : Array Value).size (fun i v => (#[a, b] : Array Value)[i]? = some v) (fun i s' => s'.heap.IsTupleIter I T i ∧ s'.heap.IsTuple T #[a, b]) J V bt := by
    refine ⟨?_, ?_, ?_, ?_⟩
    · rintro _ s' ⟨h, tk, rfl, kp⟩ m
      refine ⟨s'.heap, s'.toks, ?_, fun b o e => m.heap b o (nin (lt e).1 (lt e).2) (kp b o e)⟩
      have m1 := m.gens
      have m2 := m.drawn
      have m3 := m.os
      obtain ⟨h', g', d', t', o'⟩ := s'
      cases m1; cases m2; cases m3
      rfl
    · rintro i k s s' ⟨c, t0, t1, e, c1, c2, ⟨o, h1, h2⟩⟩ m
      exact ⟨c, t0, t1, e, c1, c2, o, m.heap c o (nin c1 c2) h1, h2⟩
    · rintro i v _ o Q E hi hv ⟨h, tk, rfl, kp⟩ st ho hQ
      have hi : i < 2 := hi
      have key : (v = a ∧ (ke i).1 = la ∧ (ke i).2 = da) ∨ (v = b ∧ (ke i).1 = lb ∧ (ke i).2 = db) := by
        match i, hi, hv with
        | 0, _, hv => exact .inl ⟨(Option.some.inj hv).symm, rfl, rfl⟩
        | 1, _, hv => exact .inr ⟨(Option.some.inj hv).symm, rfl, rfl⟩
      refine wpAny_mono (turn v _ _ key h tk kp) (fun u s' ⟨h', tk', c, t0, t1, e1, kp', e2, nc, it⟩ => ?_) fun _ _ z => z.elim
      subst e1 e2
      obtain ⟨⟨oi, i1, i2⟩, ot, j1, j2⟩ := st
      refine hQ _ _ ⟨h', tk', rfl, fun b o e => kp' b o (kp b o e)⟩ ⟨⟨oi, kp' _ _ i1, i2⟩, ot, kp' _ _ j1, j2⟩ (kp' _ _ ho) ⟨c, t0, t1, rfl, fun z => ?_, fun z => ?_, it⟩ ?_
      · subst z; rw [nc] at ho; cases ho
      · subst z; rw [nc] at i1; cases i1
      · rintro j _ ⟨c2, u0, u1, e, c3, c4, ⟨o2, h1, h2⟩⟩
        exact ⟨c2, u0, u1, e, c3, c4, o2, kp' _ _ h1, h2⟩
    · rintro i j _ _ s' Q E _ ⟨c, t0, t1, rfl, _, _, it⟩ ⟨c2, u0, u1, rfl, _, _, it2⟩ hQ
      have rd : ∀ {h : Heap} {c : Addr} {l d : Int} {t0 t1 : Tok}, IsTup h c #[.int l t0, .int d t1] → Reads h (.ref c) (keyI l d) [] := fun {h c l d t0 t1} ⟨o, a1, a2, m, a3⟩ =>
        .tuple a1 a2 a3 (ReadsAll.cons (Reads.int _ _) (ReadsAll.cons (Reads.int _ _) ReadsAll.nil))
      exact PySem.W.gt_data (rd it) (rd it2) rfl (by intro z; cases z) (by show A.in1.units + min 1 1 < cLine; omega) hQ
  have hI1 : s3.heap.get? I = some { cls := .type "tuple_iterator", data := .fields #[.ref T, .int 0 0] } := Heap.get?_push_of_some _ (Heap.get?_push_size _ rfl)
  have hT1 : s3.heap.get? T = some { cls := .type "tuple", data := .seq #[a, b] } := Heap.get?_push_of_some _ (Heap.get?_push_of_some _ (Heap.get?_push_size _ rfl))
  rw [hname]
  refine wpAny_pure ⟨plainId_quiet PySem.F.plain_max_loop _, codeAny_max_loop_firstK W S (fun z => ?_) K _ (show 0 < 2 by decide) ⟨s3.heap, s3.toks, rfl, fun b o e => Heap.get?_push_of_some _ (Heap.get?_push_of_some _ (Heap.get?_push_of_some _ e))⟩ ⟨⟨_, hI1, rfl, rfl⟩, _, hT1, rfl, _, rfl⟩ (Heap.get?_push_size _ rfl) ?_⟩
  · simp only [List.mem_cons, List.not_mem_nil, or_false] at z
    rcases z with z | z
    · rw [hSz, hIz] at z; exact absurd z (Nat.ne_of_gt (Nat.lt_succ_self _))
    · rw [hSz] at z; exact absurd z (Nat.ne_of_gt (Nat.lt_succ_of_lt (Nat.lt_succ_self _)))
  · rintro v _ hv ⟨h', tk', rfl, kp⟩
    have e : v = if PySem.W.dataLt (keyI la da) (keyI lb db) = true then b else a := by
      have hv : (#[a, b] : Array Value)[if bt 1 0 = true then 1 else 0]? = some v := hv
      have hb : bt 1 0 = PySem.W.dataLt (keyI la da) (keyI lb db) := rfl
      rw [hb] at hv
      cases c : PySem.W.dataLt (keyI la da) (keyI lb db) with
      | true => rw [c] at hv; exact (Option.some.inj hv).symm
      | false => rw [c] at hv; exact (Option.some.inj hv).symm
    rw [e]
    exact h h' tk' kp
end
end DL

set_option Elab.async false
set_option linter.all false
set_option maxRecDepth 100000
set_option maxHeartbeats 4000000
namespace DL
open PySem L2 LamX PyProof.Rows
/-! ### sorted(of a tuple) -/
mutual
theorem reads_alive {h : Heap} : ∀ (d : PyData) (v : Value) (as : List Addr), PySem.W.alike d d = true → Reads h v d as → ∀ b ∈ as, ∃ o, h.get? b = some o
  | .none, _, _, _, r, b, hb => by cases r; cases hb
  | .bool _, _, _, _, r, b, hb => by cases r; cases hb
  | .int _, _, _, _, r, b, hb => by cases r; cases hb
  | .str _, _, _, _, r, b, hb => by cases r; cases hb
  | .list xs, _, _, hal, r, b, hb => by
    cases r with
    | list h1 h2 h3 h4 =>
      rcases List.mem_cons.mp hb with rfl | hb
      · exact ⟨_, h1⟩
      · exact readsAll_alive xs _ _ (by simpa [PySem.W.alike] using hal) h4 b hb
  | .tuple xs, _, _, hal, r, b, hb => by
    cases r with
    | tuple h1 h2 h3 h4 => exact readsAll_alive xs _ _ (by simpa [PySem.W.alike] using hal) h4 b hb
  | .dict _, _, _, hal, _, _, _ => absurd hal (by simp [PySem.W.alike])
theorem readsAll_alive {h : Heap} : ∀ (ds : List PyData) (vs : List Value) (as : List Addr), PySem.W.alikeAll ds ds = true → ReadsAll h vs ds as → ∀ b ∈ as, ∃ o, h.get? b = some o
  | [], _, _, _, r, b, hb => by cases r; cases hb
  | d :: ds, _, _, hal, r, b, hb => by
    cases r with
    | cons h1 h2 =>
      rcases List.mem_append.mp hb with hb | hb
      · exact reads_alive d _ _ (PySem.W.alike_all_cons hal).1 h1 b hb
      · exact readsAll_alive ds _ _ (PySem.W.alike_all_cons hal).2 h2 b hb
end
def rSortedT (K : PySem.W.Frag) : List V → Hp → VK → Prop := fun vs H Q => ∃ (a : Addr) (qs : List (Dt × V)), vs = [.ref a] ∧ SqT K H a (qs.map (·.2)) ∧ (∀ q ∈ qs, Dp K H q.2 q.1.py) ∧ srtOk (qs.map (·.1)) ∧
  ∀ l, H l = none → Q (.ref l) (upd H l (.lst ((qs.mergeSort fun p q => leD p.1 q.1).map (·.2))))
/-- a tuple's items, gathered: the heap as it then stands -/
theorem gather_tup {prog : Program} {w : World} {A : Around} {E : Value → Shared → Prop} {s : Shared} {Q : List Value → Shared → Prop} {a : Addr} {o : Obj} {xs : Array Value} {n : Nat} (ho : s.heap.get? a = some o) (hc : o.cls = .type "tuple") (hd : o.data = .seq xs n) (hz : xs.size ≤ sizeLine)
    (hQ : Q xs.toList { s with heap := (s.heap.push (seqObj "list" #[] 0)).update s.heap.objs.size (Obj.mapSeq (· ++ xs)) }) : wpAny (model prog w) A (collect (.ref a)) Q E s := by
  have new : (s.heap.push (seqObj "list" #[] 0)).get? s.heap.objs.size = some (seqObj "list" #[] 0) := Heap.get?_push_size _ rfl
  have filled := Heap.get?_update_self (Obj.mapSeq (· ++ xs)) new rfl
  have last : ∀ {A' : Around}, wpAny (model prog w) A' (load s.heap.objs.size >>= fun u => match u.data with
      | Data.seq ys _ => pure ys.toList
      | _ => unsupported "internal:collect") Q E { s with heap := (s.heap.push (seqObj "list" #[] 0)).update s.heap.objs.size (Obj.mapSeq (· ++ xs)) } := fun {A'} => by
    refine wpAny_bind (wpAny_load filled (wpAny_pure ?_))
    have e : ((#[] : Array Value) ++ xs).toList = xs.toList := by simp
    show Q ((#[] : Array Value) ++ xs).toList _
    rw [e]; exact hQ
  unfold collect
  refine wpAny_bind (wpAny_runValue (codeAny_builtin PySem.F.entry_proto_collect ?_))
  rw [Around.under_plainId PySem.F.plain_proto_collect _]
  show wpAny _ A.in1 (newList [] >>= fun l => again (.builtin "list.__iadd__" ⟨[l, .ref a], []⟩)) _ _ s
  refine wpAny_bind (wpAny_newObj_type (wpAny_pure ⟨plainId_quiet PySem.F.plain_list_iadd _, codeAny_builtin PySem.F.entry_list_iadd ?_⟩))
  rw [Around.under_plainId PySem.F.plain_list_iadd _]
  refine wpAny_mono (wpAny_extend_seq (hsz := hz) (A := A) (R := fun r s' => r = .ok (.ret (.ref s.heap.objs.size)) ∧ s' = { s with heap := (s.heap.push (seqObj "list" #[] 0)).update s.heap.objs.size (Obj.mapSeq (· ++ xs)) })
    (s := { s with heap := s.heap.push (seqObj "list" #[] 0) }) _ a _ 0 (.inr rfl) new (Heap.get?_push_of_some _ ho) hc hd ⟨rfl, rfl⟩) (fun fin s' h => ?_) fun e s' h => absurd h.1 (by simp)
  cases fin with
  | done f =>
    obtain ⟨e, rfl⟩ := h
    cases e
    exact last
  | again c' => exact ⟨h.1, codeAny_mono h.2 fun r s'' hr => by obtain ⟨rfl, rfl⟩ := hr; exact last⟩
section
variable {X : Cx}
theorem cr_sortedT (hu : X.A.units + 64 < cLine) : CallR X (.builtin "sorted") (rSortedT X.K) := by
  intro pins s σ H vs us Q I r h
  obtain ⟨a, qs, rfl, hs, hd, ⟨hn, hal, hso, hdep⟩, q⟩ := h
  obtain ⟨its, rv, ⟨o, ho, hcls, n, hdat⟩, hz⟩ := I.tuple hs
  rw [Vals.ref1 r]
  have e := each_of (K := X.K) (H := H) (X := X) (pins := pins) (σ := σ) (s := s) qs its rv
  have hmap : qs.map (fun q : Dt × V => q.1.py) = (qs.map (·.1)).map Dt.py := by rw [List.map_map]; rfl
  have hz2 : its.length ≤ sizeLine := by rw [e.length]; simpa using hz
  have hal2 : PySem.W.AllAlike (qs.map fun q : Dt × V => q.1.py) := by
    intro d hdm d' hdm'
    rw [hmap] at hdm hdm'
    obtain ⟨x, hx, rfl⟩ := List.mem_map.mp hdm
    obtain ⟨y, hy, rfl⟩ := List.mem_map.mp hdm'
    rw [alk_py]; exact hal x hx y hy
  refine Calls.call_function_entry kind_sorted plain_sorted entry_sorted (args_sorted1 _) ?_
  unfold Builtin.«sorted»
  refine wpAny_bind (m := checkCount "sorted" 1 1 _) (wpAny_pure ?_)
  refine wpAny_bind (gather_tup ho hcls hdat (by simpa using hz2) ?_)
  have k1 : ∀ b u, s.heap.get? b = some u → ((s.heap.push (seqObj "list" #[] 0)).update s.heap.objs.size (Obj.mapSeq (· ++ its.toArray))).get? b = some u := fun b u e =>
    (Heap.get?_update_other _ _ (Nat.ne_of_gt (Heap.lt_size e))).trans (Heap.get?_push_of_some _ e)
  have ge : s.heap.objs.size ≤ ((s.heap.push (seqObj "list" #[] 0)).update s.heap.objs.size (Obj.mapSeq (· ++ its.toArray))).objs.size :=
    Nat.le_of_lt (Heap.lt_size (Heap.get?_update_self (Obj.mapSeq (· ++ its.toArray)) (Heap.get?_push_size s.heap (o := seqObj "list" #[] 0) rfl) rfl))
  generalize (s.heap.push (seqObj "list" #[] 0)).update s.heap.objs.size (Obj.mapSeq (· ++ its.toArray)) = h1 at k1 ge
  refine wpAny_bind (wpAny_newList ?_ (by simpa using hz2))
  have hoL : (h1.push (seqObj "list" its.toArray 0)).get? h1.objs.size = some (seqObj "list" its.toArray 0) := Heap.get?_push_size _ rfl
  have up : ∀ b u, s.heap.get? b = some u → (h1.push (seqObj "list" its.toArray 0)).get? b = some u := fun b u e => Heap.get?_push_of_some _ (k1 b u e)
  refine wpAny_bind (wpAny_holding (PySem.W.list_sort_data (enc := fun q : Dt × V => q.1.py) hoL e (EachIs.imp_mem e fun u q hq hr => ?_) hal2 (by rw [hmap]; exact sortable_of hso) (by simpa [e.length] using hz2) (fun q hq => ?_) fun out hlen he => ?_))
  · obtain ⟨as, r1⟩ := Dp.reads I _ _ _ (hd q hq) hr
    refine ⟨as, PyProof.Rows.Reads.keeps up r1, fun hm => ?_⟩
    have hin : q.1.py ∈ qs.map fun q : Dt × V => q.1.py := List.mem_map.mpr ⟨q, hq, rfl⟩
    obtain ⟨o2, h2⟩ := reads_alive _ _ _ (hal2 _ hin _ hin) r1 _ hm
    exact absurd (Heap.lt_size (k1 _ _ h2)) (Nat.lt_irrefl _)
  · have hq1 : q.1 ∈ qs.map (·.1) := List.mem_map.mpr ⟨q, hq, rfl⟩
    have h1 := depL_le.mp hdep q.1 hq1
    have h2 := dep_py q.1 (npL_iff.mp hn q.1 hq1)
    show X.A.in1.units + 1 + q.1.py.depth < cLine
    have h3 : X.A.in1.units = X.A.units + 1 := rfl
    omega
  · obtain ⟨c, hc⟩ := sortedHeap_at (vs := its) (out := out.toArray) hoL
    have es : qs.mergeSort (PySem.W.dataLe false fun q : Dt × V => q.1.py) = qs.mergeSort fun p q => leD p.1 q.1 := by
      have := List.map_mergeSort (r := PySem.W.dataLe false fun q : Dt × V => q.1.py) (s := fun p q : Dt × V => leD p.1 q.1) (f := id) (l := qs) fun p hp q hq => ?_
      · simpa using this
      · show (!PySem.W.dataLt q.1.py p.1.py) = !ltD q.1 p.1
        rw [ltD_py q.1 p.1 (hal _ (List.mem_map.mpr ⟨q, hq, rfl⟩) _ (List.mem_map.mpr ⟨p, hp, rfl⟩))]
    rw [es] at he
    have hlen2 : ((qs.mergeSort fun p q => leD p.1 q.1).map (·.2)).length ≤ sizeLine := by
      rw [List.length_map, List.length_mergeSort]; have := e.length; omega
    have up2 : ∀ b u, s.heap.get? b = some u → (sortedHeap (h1.push (seqObj "list" its.toArray 0)) h1.objs.size its out.toArray).get? b = some u := fun b u e => by
      have hlt := Heap.lt_size (k1 b u e)
      rw [sortedHeap_old (Nat.ne_of_lt hlt) (by rw [size_push']; exact Nat.lt_succ_of_lt hlt)]
      exact up b u e
    exact wpAny_pure ⟨_, rfl, .ref _, upd H h1.objs.size (.lst ((qs.mergeSort fun p q => leD p.1 q.1).map (·.2))), I.laid (t' := s.toks) up2 ge ⟨hlen2, out, c, vals_each he, hc⟩, rfl, q _ (I.hok.fresh ge)⟩
end
def gSortedT (x : Dt) (Q : List Dt → Prop) : Prop := match x with
  | .tup xs => srtOk xs ∧ Q (sortD xs)
  | _ => False
theorem g_SortedT {xs : List Dt} {Q : List Dt → Prop} : gSortedT (.tup xs) Q = (srtOk xs ∧ Q (sortD xs)) := rfl
section
variable {X : Cx} {U : Wd} {a : Expr} {ta : TD U}
theorem un_sortedT {K : PySem.W.Frag} : Un1L U K (rSortedT K) gSortedT := ⟨fun e F ρ w σ H x v Q Q' R hx q k => by
  unfold gSortedT at q
  split at q
  · rename_i xs
    obtain ⟨o, q⟩ := q
    obtain ⟨l, vs, e1, h1, d1⟩ := hx.din (fun _ z => nomatch z)
    subst e1
    obtain ⟨qs, q1, q2, hq⟩ := DinL.pairs d1
    refine ⟨l, qs, rfl, by rw [q2]; exact SqT.mono R.bas.fh h1, fun z hz => ?_, by rw [q1]; exact o, fun p hp => ?_⟩
    · exact (Din.dp z.1 z.2 (Din.mono R.bas.fh _ _ (hq z hz)) (npL_iff.mp o.1 z.1 (by rw [← q1]; exact List.mem_map.mpr ⟨z, hz, rfl⟩))).1
    · obtain ⟨R2, f2⟩ := R.mine hp ((qs.mergeSort fun p q => leD p.1 q.1).map (·.2))
      refine k _ p _ F _ q R2 (Same.refl _) f2 ?_
      have := DinL.of_pairs (K := K) (F := F) (qs.mergeSort fun p q => leD p.1 q.1) fun z hz => hq z (List.mem_mergeSort.mp hz)
      rw [sortD_pairs, q1] at this
      exact this
  · exact q.elim⟩
theorem df_sortedT {p2 pos : Pos} (hu : X.A.units + 64 < cLine) (hg : Gl X "sorted") (hm : X.mg "sorted" = none) (ha : DB X U a ta) (hs : starEach [a] X.env = [(false, eval a X.env)] := by rfl) : DF X U (.Call (.Name "sorted" p2) [a] [] pos) (dUnL gSortedT ta) :=
  df_callB (cr_sortedT hu) un_sortedT hg hm (by decide +kernel) ha (hs := hs)
end
end DL

set_option Elab.async false
set_option linter.all false
set_option maxRecDepth 100000
set_option maxHeartbeats 4000000
namespace DL
open PySem L2 LamX PyProof.Rows
/-! ### tables of code objects in the world of dicts -/
def vTabs (v : dcW.W) : List (Addr × Str) := DV.tb v
def wTabs (w : UD.W) : List (Addr × Str) := vTabs w.2
def v0T (K : PySem.W.Frag) (T : List (Addr × Str)) : dcW.W := (⟨K, [], [], T⟩ : DV)
section
variable {T a b : Addr} {v : dcW.W} {c : DC} {ks : List Key} {k : Kn}
theorem wTabs_mk : wTabs (mkW T v) = vTabs v := rfl
theorem vTabs_new : vTabs (vNew v a c) = vTabs v := rfl
theorem vTabs_put : vTabs (vPut v a c) = vTabs v := rfl
theorem vTabs_ts : vTabs (vTs v b ks) = vTabs v := rfl
theorem vTabs_kn : vTabs (vKn v b k) = vTabs v := rfl
theorem vTabs_0 {K : PySem.W.Frag} {T : List (Addr × Str)} : vTabs (v0T K T) = T := rfl
theorem vK_0T {K : PySem.W.Frag} {T : List (Addr × Str)} : vK (v0T K T) = K := rfl
end
theorem dcT_rep0 {K : PySem.W.Frag} (T : List (Addr × Str)) : ∀ F H, (∀ P ∈ T.map (·.1), F P = none ∧ H P = some (.tbl #[])) → dcW.rep F H (v0T K T) := fun F H h =>
  ⟨⟨(fun _ _ h => by cases h), fun p hp => by
    obtain ⟨h1, h2⟩ := h p.1 (List.mem_map.mpr ⟨p, hp, rfl⟩)
    exact ⟨h1, #[], h2, True.intro, fun pos cv hc => by
      have z : codeAmong pos [] = some cv := hc
      simp [codeAmong] at z⟩⟩, (fun _ _ h => by cases h)⟩
theorem dcT_foot0 {K : PySem.W.Frag} (T : List (Addr × Str)) : ∀ a, dcW.foot (v0T K T) a → a ∈ T.map (·.1) := fun a h => by
  rcases h with ⟨c, h⟩ | ⟨q, h⟩
  · cases h
  · exact List.mem_map.mpr ⟨_, h, rfl⟩
section
variable {K : PySem.W.Frag} {e : Ent UD} {F : Hp} {ρ : Rho} {w : UD.W} {σ : L2.St} {H : Hp}
theorem Rel.dTabIs (R : Rel UD K e F ρ w σ H) {P : Addr} {q : Str} (hm : (P, q) ∈ wTabs w) : ∃ ps, TabIs H P q ps ∧ F P = none := by
  obtain ⟨f, ps, e1, t, k⟩ := R.bas.rep.1.1.2 (P, q) hm
  refine ⟨ps, ⟨e1, t, fun pos cv hc => ?_⟩, f⟩
  obtain ⟨c, e2, e3⟩ := k pos cv hc
  exact ⟨c, e2, R.bas.fh _ _ e3⟩
theorem Rel.dTabNew (R : Rel UD K e F ρ w σ H) {P : Addr} {q : Str} {ps ps' : Array Value} {H' : Hp} (hm : (P, q) ∈ wTabs w) (hu : ∀ p ∈ wTabs w, p.1 = P → p.2 = q) (hP : H P = some (.tbl ps)) (N : TabNew H H' P q ps ps') :
    ∃ F', Rel UD K e F' ρ w σ H' ∧ Same F F' := by
  have B := R.bas
  obtain ⟨⟨⟨r1, r3⟩, r2⟩, rt⟩ := B.rep
  have fw : UD.foot w P := .inr (.inr ⟨q, hm⟩)
  have fP : F P = none := (r3 (P, q) hm).1
  let F' : Hp := fun b => match H b with
    | none => H' b
    | some _ => F b
  have Fn : ∀ b, H b = none → F' b = H' b := fun b h => by show (match H b with | none => H' b | some _ => F b) = _; rw [h]
  have Fs : ∀ b o, H b = some o → F' b = F b := fun b o h => by show (match H b with | none => H' b | some _ => F b) = _; rw [h]
  have sf : Same F F' := fun b o h => (Fs b o (B.fh _ _ h)).trans h
  have hst : ∀ b o, b ≠ P → H b = some o → H' b = H b := fun b o hb h => (N.keep b o hb h).trans h.symm
  have neP : ∀ b o, F b = some o → b ≠ P := fun b o h z => by rw [z, fP] at h; cases h
  refine ⟨F', ⟨⟨fun b o h => ?_, ⟨⟨⟨fun a c hc => ?_, fun p hp => ?_⟩, fun b t hb => (r2 b t hb).mono sf⟩, fun T hT => ?_⟩, B.f.trans sf, fun b o h hf => ?_, fun b o h => ?_, fun b o h h0 => ?_, B.foot⟩, fun i x h => ?_, fun i xs h => ?_, R.inj, R.len⟩, sf⟩
  · cases c : H b with
    | none => rw [Fn b c] at h; exact h
    | some o2 =>
      rw [Fs b o2 c] at h
      exact N.keep b o (neP b o h) (B.fh _ _ h)
  · obtain ⟨f, d⟩ := r1 a c hc
    obtain ⟨o, ho⟩ := d.some
    have ne : a ≠ P := fun z => d.noTab (by rw [z]; exact hP)
    exact ⟨(Fs _ _ ho).trans f, DcIn.stay sf (hst a o ne ho) d⟩
  · obtain ⟨f, qs, e1, t, k⟩ := r3 p hp
    refine ⟨(Fs _ _ e1).trans f, ?_⟩
    by_cases hb : p.1 = P
    · have eq := hu p hp hb
      rw [hb] at e1 ⊢
      rw [hP] at e1
      cases e1
      refine ⟨ps', N.tab, N.tri, fun pos cv hc => ?_⟩
      rcases N.code pos cv hc with z | ⟨c, e2, n1, n2⟩
      · obtain ⟨c, e2, e3⟩ := k pos cv z
        exact ⟨c, e2, sf _ _ e3⟩
      · exact ⟨c, e2, by rw [eq, Fn c n1]; exact n2⟩
    · refine ⟨qs, N.keep _ _ hb e1, t, fun pos cv hc => ?_⟩
      obtain ⟨c, e2, e3⟩ := k pos cv hc
      exact ⟨c, e2, sf _ _ e3⟩
  · obtain ⟨⟨f, L, ns, pos, rest, h1, h2, h3⟩, h4⟩ := rt T hT
    have ne : T ≠ P := fun z => h4 (z ▸ .inr ⟨q, hm⟩)
    exact ⟨⟨(Fs _ _ h1).trans f, L, ns, pos, rest, N.keep _ _ ne h1, sf _ _ h2, h3⟩, h4⟩
  · have ne : b ≠ P := fun z => by
      subst z
      rcases B.foot _ fw with k | k
      · exact hf k
      · rw [h] at k; cases k
    exact N.keep _ _ ne (B.keep _ _ h hf)
  · obtain ⟨o', h'⟩ := B.there _ _ h
    by_cases hb : b = P
    · exact ⟨_, by rw [hb]; exact N.tab⟩
    · exact ⟨o', N.keep _ _ hb h'⟩
  · cases c : H b with
    | none =>
      cases d : e.H b with
      | none => rfl
      | some u => obtain ⟨o', h'⟩ := B.there _ _ d; rw [c] at h'; cases h'
    | some o2 => rw [Fs b o2 c] at h; exact B.new _ _ h h0
  · obtain ⟨v, h1, h2⟩ := R.slot i x h
    exact ⟨v, h1, Din.mono sf _ _ h2⟩
  · obtain ⟨l, vs, h1, O, h3⟩ := R.own i xs h
    have ne : l ≠ P := fun z => O.nf (z ▸ fw)
    exact ⟨l, vs, h1, ⟨N.keep _ _ ne O.hl, (Fs _ _ O.hl).trans O.fl, O.nf, O.el⟩, DinL.mono sf _ _ h3⟩
end
/-! ### max(x, y, key=lambda r: (len(r[0]), r[1])) -/
def tMK (K : PySem.W.Frag) (P : Addr) (q : Str) (ta tb : TE) : TE := fun σ H Q => ta σ H fun v H1 => tb σ H1 fun u H2 => ∃ ps, TabIs H2 P q ps ∧ ∀ ps' H3, TabNew H2 H3 P q ps ps' →
  ∃ (p1 p2 : Addr) (s1 s2 : Str) (d1 d2 : Int) (r1 r2 : List V), v = .ref p1 ∧ u = .ref p2 ∧ SqT K H3 p1 (.str s1 :: .int d1 :: r1) ∧ SqT K H3 p2 (.str s2 :: .int d2 :: r2) ∧ s1.length ≤ sizeLine ∧ s2.length ≤ sizeLine ∧
    Q (if PySem.W.dataLt (keyI s1.length d1) (keyI s2.length d2) = true then u else v) H3
section
variable {X : Cx}
theorem pe_maxKey {a b : Expr} {ta tb : TE} {c P : Addr} {x : Str} {params : Arguments} {scope : Scope} {p p1 p2 p3 p4 p5 p6 p7 p8 p9 lpos kpos pos : Pos} {k k1 k2 : Nat} {n : Nat} (hcalm : X.calm = true) (hun : X.A.units + 64 < cLine)
    (hg : Gl X "max") (hm : X.mg "max" = none) (hml : X.mg "len" = none) (hr : Room (n + 2) X.A) (ha : PE X a ta) (hb : PE X b tb) (TB : TabB X.base X.mg c P) (hc : X.env.code = .ref c) (S : LenS scope x)
    (hdef : defaultsOf params X.env = ([], [])) (hcl : closureFor scope X.env = pure [])
    (hbind : ∀ (q : Str) (pm cv ctv : Value) (u : Value), bindArgs (PySem.W.kla_fn "<lambda>" q params (.Tuple [.Call (.Name "len" p1) [.Subscript (.Name x p2) (.Constant (.int 0) k1 p6) p7] [] p3, .Subscript (.Name x p4) (.Constant (.int 1) k2 p8) p9] k p5) scope [] pm cv ctv) ⟨[u], []⟩ = pure [(x, u)])
    (hs : starEach [a, b] X.env = (false, eval a X.env) :: starEach [b] X.env := by rfl) (hs2 : starEach [b] X.env = [(false, eval b X.env)] := by rfl) :
    PE X (.Call (.Name "max" p) [a, b] [⟨some "key", .Lambda params (.Tuple [.Call (.Name "len" p1) [.Subscript (.Name x p2) (.Constant (.int 0) k1 p6) p7] [] p3, .Subscript (.Name x p4) (.Constant (.int 1) k2 p8) p9] k p5) scope lpos, kpos⟩] pos) (tMK X.K P (X.env.qual ++ "<lambda>") ta tb) := by
  refine ⟨fun pins s σ H Q I h => ?_⟩
  refine wpAny_Call_Name_kw (ld_blt (u := .builtin "max") I hg hm (by decide +kernel) ?_)
  have hb1 : backTo pos (starEach [a, b] X.env) = (false, eval a X.env) :: backTo pos (starEach [b] X.env) := by rw [hs, hs2]; rfl
  have hb2 : backTo pos (starEach [b] X.env) = (false, eval b X.env) :: backTo pos (starEach [] X.env) := by rw [hs2]; rfl
  refine callWith_kw ?_ hb1 (by rw [hs, hs2]; rfl)
  rw [hb1, hb2]
  refine Calls.spliced_cons (thn (ha.run pins s σ H _ I h) fun v1 s1 ⟨v, H1, I1, r1, q1⟩ => Calls.spliced_cons (thn (hb.run pins s1 σ H1 _ I1 q1) fun u1 s2 ⟨u, H2, I2, r2, ps, hT, q2⟩ => Calls.spliced_nil ?_))
  show wpAny _ _ (evalAll [(do let v ← eval _ X.env; standAt pos; pure v)]) _ _ s2
  refine wpAny_evalAll_cons (wpAny_bind (lam_new I2 TB hc hT hdef hcl fun f k pm ctv ps' H3 s3 I3 hn hf hrec => wpAny_bind (wpAny_standAt (wpAny_pure (wpAny_evalAll_nil ?_)))))
  obtain ⟨p1, p2, t1, t2, d1, d2, rr1, rr2, rfl, rfl, hS1, hS2, z1, z2, hQ⟩ := q2 ps' H3 hn
  cases r1
  cases r2
  obtain ⟨mb, hb2, hb3⟩ := I3.mod.blt
  show wpAny _ _ (call (.builtin "max") [.ref p1, .ref p2] [(Str.ofString "key", .ref f)]) _ _ s3
  obtain ⟨v1, rv1, ⟨o1, g1, c1, n1, e1⟩, _⟩ := I3.tuple hS1
  obtain ⟨v2, rv2, ⟨o2, g2, c2, n2, e2⟩, _⟩ := I3.tuple hS2
  cases rv1 with
  | cons a1 rv1 =>
  cases rv1 with
  | cons b1 rv1 =>
  cases rv2 with
  | cons a2 rv2 =>
  cases rv2 with
  | cons b2 rv2 =>
  obtain ⟨ta1, rfl⟩ := a1
  obtain ⟨tb1, rfl⟩ := b1
  obtain ⟨ta2, rfl⟩ := a2
  obtain ⟨tb2, rfl⟩ := b2
  have hun2 := hr.un
  have lam : ∀ {pp : Addr} {t : Str} {d : Int} {x0 x1 : Tok} {vs : List Value} {o : Obj} {n : Nat}, s3.heap.get? pp = some o → o.cls = .type "tuple" → o.data = .seq (Value.str t x0 :: Value.int d x1 :: vs).toArray n → t.length ≤ sizeLine → ∀ (h : Heap) (tk : Nat), (∀ b o, s3.heap.get? b = some o → h.get? b = some o) →
      wpAny (model X.prog X.w) X.A.in1 (call (.ref f) [.ref pp]) (KeyNew t.length d { s3 with heap := h, toks := tk }) (fun _ _ => False) { s3 with heap := h, toks := tk } := fun {pp t d x0 x1 vs o n} g c e z h tk up =>
    lam_row (prog := X.prog) (w := X.w) (A := X.A.in1) (s := { s3 with heap := h, toks := tk }) (f := f) (p := pp) (c' := k) (vs := vs) S (by have := hr.dp; show X.A.depth < _; omega) (I3.nolimit.keeps up) ((I3.mod.glob.keeps I3.bk).keeps up) hml ((hb2.keeps I3.bk).keeps up)
      ((hb3 _ (by decide)).trans (by decide +kernel)) (up _ _ hf) (by obtain ⟨k2, o, fs, tq, ek, ho, hd, hq⟩ := hrec; exact ⟨k2, o, fs, tq, ek, up _ _ ho, hd, hq⟩) (fun u => hbind _ _ _ _ u) ⟨o, up _ _ g, c, n, e⟩ z
  refine max_two_key (s := s3) (I3.ok.hd hcalm) (by show X.A.units + 1 + 4 < cLine; omega) (la := t1.length) (da := d1) (lb := t2.length) (db := d2) (fun v l d hv h tk up => ?_) fun h' tk up => ?_
  · rcases hv with ⟨rfl, rfl, rfl⟩ | ⟨rfl, rfl, rfl⟩
    · exact lam g1 c1 e1 z1 h tk up
    · exact lam g2 c2 e2 z2 h tk up
  · refine ⟨_, H3, I3.kept up, ?_, hQ⟩
    split <;> rfl
end
def dMK (P : Addr) (q : Str) (ta tb : TD UD) : TD UD := fun ρ w Q => ta ρ w fun x w1 => tb ρ w1 fun y w2 => ((P, q) ∈ wTabs w2 ∧ ∀ p ∈ wTabs w2, p.1 = P → p.2 = q) ∧
  ∃ (s1 s2 : Str) (d1 d2 : Int) (r1 r2 : List Dt), x = .tup (.str s1 :: .int d1 :: r1) ∧ y = .tup (.str s2 :: .int d2 :: r2) ∧ s1.length ≤ sizeLine ∧ s2.length ≤ sizeLine ∧ Q (if PySem.W.dataLt (keyI s1.length d1) (keyI s2.length d2) = true then y else x) w2
theorem ev_MK {P : Addr} {q : Str} {ta tb : TD UD} {ρ : Rho} {w : UD.W} {Q : Dt → UD.W → Prop} : dMK P q ta tb ρ w Q = ta ρ w fun x w1 => tb ρ w1 fun y w2 => ((P, q) ∈ wTabs w2 ∧ ∀ p ∈ wTabs w2, p.1 = P → p.2 = q) ∧
  ∃ (s1 s2 : Str) (d1 d2 : Int) (r1 r2 : List Dt), x = .tup (.str s1 :: .int d1 :: r1) ∧ y = .tup (.str s2 :: .int d2 :: r2) ∧ s1.length ≤ sizeLine ∧ s2.length ≤ sizeLine ∧ Q (if PySem.W.dataLt (keyI s1.length d1) (keyI s2.length d2) = true then y else x) w2 := rfl
section
variable {X : Cx} {a b : Expr} {ta tb : TD UD}
theorem de_maxKey {c P : Addr} {x : Str} {params : Arguments} {scope : Scope} {p p1 p2 p3 p4 p5 p6 p7 p8 p9 lpos kpos pos : Pos} {k k1 k2 : Nat} {n : Nat} (hcalm : X.calm = true) (hun : X.A.units + 64 < cLine)
    (hg : Gl X "max") (hm : X.mg "max" = none) (hml : X.mg "len" = none) (hr : Room (n + 2) X.A) (ha : DE X UD a ta) (hb : DE X UD b tb) (TB : TabB X.base X.mg c P) (hc : X.env.code = .ref c) (S : LenS scope x)
    (hdef : defaultsOf params X.env = ([], [])) (hcl : closureFor scope X.env = pure [])
    (hbind : ∀ (q : Str) (pm cv ctv : Value) (u : Value), bindArgs (PySem.W.kla_fn "<lambda>" q params (.Tuple [.Call (.Name "len" p1) [.Subscript (.Name x p2) (.Constant (.int 0) k1 p6) p7] [] p3, .Subscript (.Name x p4) (.Constant (.int 1) k2 p8) p9] k p5) scope [] pm cv ctv) ⟨[u], []⟩ = pure [(x, u)])
    (hs : starEach [a, b] X.env = (false, eval a X.env) :: starEach [b] X.env := by rfl) (hs2 : starEach [b] X.env = [(false, eval b X.env)] := by rfl) :
    DE X UD (.Call (.Name "max" p) [a, b] [⟨some "key", .Lambda params (.Tuple [.Call (.Name "len" p1) [.Subscript (.Name x p2) (.Constant (.int 0) k1 p6) p7] [] p3, .Subscript (.Name x p4) (.Constant (.int 1) k2 p8) p9] k p5) scope lpos, kpos⟩] pos) (dMK P (X.env.qual ++ "<lambda>") ta tb) :=
  ⟨fun e => (pe_maxKey hcalm hun hg hm hml hr (ha.run e) (hb.run e) TB hc S hdef hcl hbind hs hs2).weak fun σ H Q ⟨F, ρ, w, Q', R, q, kk⟩ => ⟨F, ρ, w, _, R, q, fun x v F1 w1 H1 q1 R1 s1 dd1 => ⟨F1, ρ, w1, _, R1, q1, fun y u F2 w2 H2 ⟨⟨hm, hu⟩, t1, t2, d1, d2, r1, r2, ex, ey, z1, z2, q2⟩ R2 s2 dd2 => by
    subst ex ey
    obtain ⟨ps, tis, fP⟩ := R2.dTabIs hm
    refine ⟨ps, tis, fun ps' H3 N => ?_⟩
    obtain ⟨F3, R3, s3⟩ := R2.dTabNew hm hu tis.1 N
    have D1 := Din.mono s3 _ _ (Din.mono s2 _ _ dd1)
    have D2 := Din.mono s3 _ _ dd2
    have sh : ∀ {t : Str} {d : Int} {r : List Dt} {v : V}, Din X.K F3 (.tup (.str t :: .int d :: r)) v → ∃ p rr, v = .ref p ∧ SqT X.K H3 p (.str t :: .int d :: rr) := fun {t d r v} D => by
      obtain ⟨p, vs, e1, h1, v0, vs0, e2, h2, v3, vs3, e3, h3, _⟩ := D
      obtain ⟨h2, _⟩ := h2
      have h3 : v3 = .int d := h3
      subst e2 e3 h2 h3
      exact ⟨p, _, e1, SqT.mono R3.bas.fh h1⟩
    obtain ⟨p1, rr1, e1, h1⟩ := sh D1
    obtain ⟨p2, rr2, e2, h2⟩ := sh D2
    refine ⟨p1, p2, t1, t2, d1, d2, rr1, rr2, e1, e2, h1, h2, z1, z2, ?_⟩
    split
    · rename_i c
      rw [if_pos c] at q2
      exact kk _ _ F3 w2 H3 q2 R3 (s1.trans (s2.trans s3)) D2
    · rename_i c
      rw [if_neg c] at q2
      exact kk _ _ F3 w2 H3 q2 R3 (s1.trans (s2.trans s3)) D1⟩⟩⟩
end
end DL

set_option Elab.async false
set_option linter.all false
set_option maxRecDepth 100000
set_option maxHeartbeats 4000000
namespace DL
open PySem L2
theorem _root_.L2.Room.units1 {k : Nat} {A : Around} (r : Room k A) : A.units + 65 < cLine := by have := r.un; omega
/-! ### x in xs, a list of data of any depth -/
theorem any_py (x : Dt) : ∀ ys : List Dt, (Dt.pyL ys).any (fun z => PyData.eqv z x.py) = ys.any fun z => eqd z x
  | [] => rfl
  | y :: ys => by
    show (PyData.eqv y.py x.py || (Dt.pyL ys).any fun z => PyData.eqv z x.py) = (eqd y x || ys.any fun z => eqd z x)
    rw [any_py x ys, eqd_py]
def gInX (neg : Bool) (x y : Dt) (Q : Dt → Prop) : Prop := match y with
  | .lst ys => x.np = true ∧ Dt.npL ys = true ∧ x.dep ≤ 64 ∧ Dt.depL ys ≤ 63 ∧ Q (.bl (neg ^^ ys.any fun z => eqd z x))
  | _ => False
section
variable {X : Cx} {U : Wd}
theorem shp {d : Dt} (n : d.np = true) (c : PyData.canLay0 d.py = true) (h : d.dep ≤ 64) : SeqAt.shaped d.py = true := by
  show (d.py.canLay0 && decide (d.py.depth ≤ 64)) = true
  rw [c, Bool.true_and, dep_py d n]; exact decide_eq_true h
theorem bin_inX {K : PySem.W.Frag} : Bin U K (rInD K) (gInX false) := ⟨fun e F ρ w σ H x y v u Q Q' R hx hy q k => by
  unfold gInX at q
  split at q
  · rename_i ys
    obtain ⟨n1, n2, d1, d2, q⟩ := q
    obtain ⟨r1, c1⟩ := R.dp hx n1
    obtain ⟨r2, c2⟩ := R.dp (x := .lst ys) hy n2
    refine ⟨_, Dt.pyL ys, r1, r2, shp n1 c1 d1, shp (d := .lst ys) n2 c2 (by show Dt.depL ys + 1 ≤ 64; omega), ?_⟩
    rw [any_py]
    rw [Bool.false_xor] at q
    exact k _ _ F H q R (Same.refl _) rfl
  · exact q.elim⟩
theorem bin_notInX {K : PySem.W.Frag} : Bin U K (rNotInD K) (gInX true) := ⟨fun e F ρ w σ H x y v u Q Q' R hx hy q k => by
  unfold gInX at q
  split at q
  · rename_i ys
    obtain ⟨n1, n2, d1, d2, q⟩ := q
    obtain ⟨r1, c1⟩ := R.dp hx n1
    obtain ⟨r2, c2⟩ := R.dp (x := .lst ys) hy n2
    refine ⟨_, Dt.pyL ys, r1, r2, shp n1 c1 d1, shp (d := .lst ys) n2 c2 (by show Dt.depL ys + 1 ≤ 64; omega), ?_⟩
    rw [any_py]
    rw [Bool.true_xor] at q
    exact k _ _ F H q R (Same.refl _) rfl
  · exact q.elim⟩
end
theorem g_InX {x : Dt} {ys : List Dt} {Q : Dt → Prop} : gInX false x (.lst ys) Q = (x.np = true ∧ Dt.npL ys = true ∧ x.dep ≤ 64 ∧ Dt.depL ys ≤ 63 ∧ Q (.bl (false ^^ ys.any fun z => eqd z x))) := rfl
theorem g_NotInX {x : Dt} {ys : List Dt} {Q : Dt → Prop} : gInX true x (.lst ys) Q = (x.np = true ∧ Dt.npL ys = true ∧ x.dep ≤ 64 ∧ Dt.depL ys ≤ 63 ∧ Q (.bl (true ^^ ys.any fun z => eqd z x))) := rfl
end DL

set_option Elab.async false
set_option linter.all false
set_option maxRecDepth 100000
set_option maxHeartbeats 4000000
namespace My
open PySem L2 DL
abbrev unitW : Wd := DL.dcW
abbrev UU : Wd := DL.UD
local macro_rules | `(tactic| walk_at "my ev") => `(tactic| simp only [↓ev_join, ↓ev_jsN, ↓ev_jsC, ↓g_FmtS, ↓g_FmtI, ↓g_MulS, ↓ev_nextX, ↓ev_seqX, ↓ev_iceX, ↓ev_ifX, ↓ev_raise, ↓ev_calX, ↓ev_calXK, ↓ev_nilX, ↓ev_consX, ↓ev_tupX, ↓ek_setX, ↓ev_retX, ↓ev_asgX, ↓ev_ml, ↓ev_try, ↓ev_isE, ↓ev_tupP, ↓ev_der, ↓ev_indP, ↓onRef_r, addK_mk, hasK_mk, vK_kn, ↓ev_v0, ↓ev_vs, ↓ev_o0, ↓ev_os, ↓setK_z, ↓setK_s, ↓ownK_z, ↓ownK_s, ↓ek_ice, ↓ek_app, ↓ek_popAt, ↓ek_insert, ↓ek_put, ↓ev_ret, ↓ev_retN, ↓ek_set, ↓ek_setO, ↓ev_asg, ↓ek_par, ↓ev_ifS, ↓ev_seq, ↓ev_exp, ↓ev_next, ↓ev_pass, ↓ev_brk, ↓ev_cnt, ↓ev_for, ↓ev_c, ↓ev_l, ↓ev_op, ↓ev_tst, ↓ev_chain, ↓ev_un, ↓ev_unL, ↓ev_sortLen, ↓ev_and, ↓ev_or, ↓ev_not, ↓ev_andV, ↓ev_orV, ↓ev_notV, ↓ev_if, ↓ev_nil, ↓ev_cons, ↓ev_tup, ↓ev_lst, ↓ev_none, ↓ev_some, ↓ev_sl, ↓ev_slL, ↓ev_revL, ↓ev_cat, ↓ev_call2, ↓ev_comp, ↓ev_sc, ↓ev_newK, ↓ev_dget, ↓ev_dget2, ↓ev_din, ↓ev_setd, ↓ev_sortK, wGet_mk, wPut_mk, wNew_mk, wK_mk, vK_new, vK_put, ↓ev_newT, ↓ev_tupK, ↓ek_putT, ↓ek_par3, ↓ev_revT, ↓g_RepX, wTs_mk, wHas_mk, vK_ts, vGet_ts, ↓ev_iL, ↓ev_iT, ↓ev_iS, ↓ev_iR1, ↓ev_iR2, ↓ev_iZ, ↓ev_iE, ↓g_EnumT, ↓g_EnumL, ↓ev_yes, ↓ev_cal, ↓ev_calK, ↓ev_m1, ↓ev_split, ↓ev_split2, ↓ev_MK, ↓g_SortedT, ↓g_InX, ↓g_NotInX, wTabs_mk, vTabs_new, vTabs_put, vTabs_ts, ↓ek_gN, ↓ev_gT, ↓ev_gsNil, ↓ev_gsCons,
  ↓inR_n, ↓inR_c, ↓hide_d, ↓hide_o, ↓hide_n, ↓onBl_b, ↓onInt_i, ↓onStr_s, ↓onTup_t, ↓onLst_l, startR, ↓List.set_cons_zero, ↓List.set_cons_succ, ↓List.map_cons, ↓List.map_nil,
  ↓atI_0, ↓atI_1, ↓atI_2, ↓atI_3, ↓atI_4, ↓atI_5, ↓atI_6, ↓atI_7, ↓atI_8, ↓atI_9, ↓atI_10,
  ↓ev_eqI, ↓ev_neI, ↓ev_eqB, ↓ev_neB, ↓ev_eqS, ↓ev_neS, ↓bb_tt, ↓bb_ff, ↓bb_tf, ↓bb_ft, ↓cDraw_eq, ↓sz0, ↓sz1, ↓sz2, ↓sz3, ↓sz4, ↓sz5, ↓sz6, ↓sz7, ↓sz8, ↓sz9, ↓sz10, ↓sz11, ↓sz12, ↓sz13, ↓sz14, ↓sz15, ↓sz16, ↓sz17, ↓sz18, ↓sz19, ↓sz20, Int.reduceLE, Int.reduceLT, Int.reduceAdd, Int.reduceSub, Int.reduceNeg, Int.reduceMul, Int.reducePow, Int.reduceToNat, 
  ↓g_RepT, ↓g_AddI, ↓g_AddS, ↓g_AddT, ↓g_I, ↓g_I0, ↓g_U, ↓g_LtI, ↓g_LtS, ↓g_InS, ↓g_NotInS, ↓g_InT, ↓g_NotInT, ↓g_IxT, ↓g_LenT, ↓g_TupOfT, ↓g_SeqT, ↓g_ZipT, ↓g_SlT, ↓g_InL, ↓g_NotInL, ↓g_IxL, ↓g_LenL, ↓g_TupOfL, ↓g_SeqL, ↓g_ZipL, ↓g_SlL, ↓g_SlS, ↓g_IxS, ↓g_LenS, ↓g_IsN, ↓g_IsNotN, ↓g_Cat, ↓g_Starts, gAll, gAny, gSum, gJoin, gStrI, gIntS,
  ↓isi_non', ↓isi_bl', ↓isi_int', ↓isi_str', ↓isi_tup', ↓isi_lst', ↓isInt_non, ↓isInt_bl, ↓isInt_int, ↓isInt_str, ↓isInt_tup, ↓isInt_lst, ↓isBl_non, ↓isBl_bl, ↓isBl_int, ↓isBl_str, ↓isBl_tup, ↓isBl_lst, ↓isStr_non, ↓isStr_bl, ↓isStr_int, ↓isStr_str, ↓isStr_tup, ↓isStr_lst, ↓isTup_non, ↓isTup_bl, ↓isTup_int, ↓isTup_str, ↓isTup_tup, ↓isTup_lst, ↓isLst_non, ↓isLst_bl, ↓isLst_int, ↓isLst_str, ↓isLst_tup, ↓isLst_lst, ↓isN_non, ↓isN_bl, ↓isN_int, ↓isN_str, ↓isN_tup, ↓isN_lst, Bool.not_true, Bool.not_false, Bool.or_true, Bool.true_or, Bool.or_false, Bool.false_or, Bool.and_true, Bool.true_and, Bool.false_and, Bool.and_false, if_true, if_false, reduceIte, Bool.false_eq_true, true_and, and_true])
local macro_rules | `(tactic| walk_at "my go") => `(tactic| simp only [↓ev_join, ↓ev_jsN, ↓ev_jsC, ↓g_FmtS, ↓g_FmtI, ↓g_MulS, ↓ev_nextX, ↓ev_seqX, ↓ev_iceX, ↓ev_ifX, ↓ev_raise, ↓ev_calX, ↓ev_calXK, ↓ev_nilX, ↓ev_consX, ↓ev_tupX, ↓ek_setX, ↓ev_retX, ↓ev_asgX, ↓ev_ml, ↓ev_try, ↓ev_isE, ↓ev_tupP, ↓ev_der, ↓ev_indP, ↓onRef_r, addK_mk, hasK_mk, vK_kn, ↓ev_v0, ↓ev_vs, ↓ev_o0, ↓ev_os, ↓setK_z, ↓setK_s, ↓ownK_z, ↓ownK_s, ↓ek_ice, ↓ek_app, ↓ek_popAt, ↓ek_insert, ↓ek_put, ↓ev_ret, ↓ev_retN, ↓ek_set, ↓ek_setO, ↓ev_asg, ↓ek_par, ↓ev_ifS, ↓ev_seq, ↓ev_exp, ↓ev_next, ↓ev_pass, ↓ev_brk, ↓ev_cnt, ↓ev_for, ↓ev_c, ↓ev_l, ↓ev_op, ↓ev_tst, ↓ev_chain, ↓ev_un, ↓ev_unL, ↓ev_sortLen, ↓ev_and, ↓ev_or, ↓ev_not, ↓ev_andV, ↓ev_orV, ↓ev_notV, ↓ev_if, ↓ev_nil, ↓ev_cons, ↓ev_tup, ↓ev_lst, ↓ev_none, ↓ev_some, ↓ev_sl, ↓ev_slL, ↓ev_revL, ↓ev_cat, ↓ev_call2, ↓ev_comp, ↓ev_sc, ↓ev_newK, ↓ev_dget, ↓ev_dget2, ↓ev_din, ↓ev_setd, ↓ev_sortK, wGet_mk, wPut_mk, wNew_mk, wK_mk, vK_new, vK_put, ↓ev_newT, ↓ev_tupK, ↓ek_putT, ↓ek_par3, ↓ev_revT, ↓g_RepX, wTs_mk, wHas_mk, vK_ts, vGet_ts, ↓ev_iL, ↓ev_iT, ↓ev_iS, ↓ev_iR1, ↓ev_iR2, ↓ev_iZ, ↓ev_iE, ↓g_EnumT, ↓g_EnumL, ↓ev_yes, ↓ev_cal, ↓ev_calK, ↓ev_m1, ↓ev_split, ↓ev_split2, ↓ev_MK, ↓g_SortedT, ↓g_InX, ↓g_NotInX, wTabs_mk, vTabs_new, vTabs_put, vTabs_ts, ↓ek_gN, ↓ev_gT, ↓ev_gsNil, ↓ev_gsCons,
  ↓inR_n, ↓inR_c, ↓hide_d, ↓hide_o, ↓hide_n, ↓onBl_b, ↓onInt_i, ↓onStr_s, ↓onTup_t, ↓onLst_l, startR, ↓List.set_cons_zero, ↓List.set_cons_succ, ↓List.map_cons, ↓List.map_nil,
  ↓ex_at0, ↓ex_at1, ↓ex_at2, ↓ex_at3, ↓ex_at4, ↓ex_at5, ↓ex_at6, ↓ex_at7, ↓ex_at8, ↓ex_at9, ↓ex_at10, ↓atI_0, ↓atI_1, ↓atI_2, ↓atI_3, ↓atI_4, ↓atI_5, ↓atI_6, ↓atI_7, ↓atI_8, ↓atI_9, ↓atI_10,
  ↓ev_eqI, ↓ev_neI, ↓ev_eqB, ↓ev_neB, ↓ev_eqS, ↓ev_neS, ↓bb_tt, ↓bb_ff, ↓bb_tf, ↓bb_ft, ↓cDraw_eq, ↓sz0, ↓sz1, ↓sz2, ↓sz3, ↓sz4, ↓sz5, ↓sz6, ↓sz7, ↓sz8, ↓sz9, ↓sz10, ↓sz11, ↓sz12, ↓sz13, ↓sz14, ↓sz15, ↓sz16, ↓sz17, ↓sz18, ↓sz19, ↓sz20, Int.reduceLE, Int.reduceLT, Int.reduceAdd, Int.reduceSub, Int.reduceNeg, Int.reduceMul, Int.reducePow, Int.reduceToNat, 
  ↓g_RepT, ↓g_AddI, ↓g_AddS, ↓g_AddT, ↓g_I, ↓g_I0, ↓g_U, ↓g_LtI, ↓g_LtS, ↓g_InS, ↓g_NotInS, ↓g_InT, ↓g_NotInT, ↓g_IxT, ↓g_LenT, ↓g_TupOfT, ↓g_SeqT, ↓g_ZipT, ↓g_SlT, ↓g_InL, ↓g_NotInL, ↓g_IxL, ↓g_LenL, ↓g_TupOfL, ↓g_SeqL, ↓g_ZipL, ↓g_SlL, ↓g_SlS, ↓g_IxS, ↓g_LenS, ↓g_IsN, ↓g_IsNotN, ↓g_Cat, ↓g_Starts, gAll, gAny, gSum, gJoin, gStrI, gIntS,
  ↓isi_non', ↓isi_bl', ↓isi_int', ↓isi_str', ↓isi_tup', ↓isi_lst', ↓isInt_non, ↓isInt_bl, ↓isInt_int, ↓isInt_str, ↓isInt_tup, ↓isInt_lst, ↓isBl_non, ↓isBl_bl, ↓isBl_int, ↓isBl_str, ↓isBl_tup, ↓isBl_lst, ↓isStr_non, ↓isStr_bl, ↓isStr_int, ↓isStr_str, ↓isStr_tup, ↓isStr_lst, ↓isTup_non, ↓isTup_bl, ↓isTup_int, ↓isTup_str, ↓isTup_tup, ↓isTup_lst, ↓isLst_non, ↓isLst_bl, ↓isLst_int, ↓isLst_str, ↓isLst_tup, ↓isLst_lst, ↓isN_non, ↓isN_bl, ↓isN_int, ↓isN_str, ↓isN_tup, ↓isN_lst, Bool.not_true, Bool.not_false, Bool.or_true, Bool.true_or, Bool.or_false, Bool.false_or, Bool.and_true, Bool.true_and, Bool.false_and, Bool.and_false, if_true, if_false, reduceIte, Bool.false_eq_true, true_and, and_true])
def top (i : Nat) : Stmt := PySem.Challenge.pw_sealduty_k11_whole_rates_put_together.main.body.getD i (.Pass ⟨0, 0, 0, 0⟩)
abbrev s_row_for : Stmt := top 1
abbrev n_row_for : List Str := ["rates", "code", "day", "some", "place", "row"]
theorem sc_row_for : FnScope n_row_for ["rates", "code", "day"] (defScope s_row_for) := ⟨rfl, rfl, rfl, by decide +kernel, rfl, by decide +kernel, by decide +kernel⟩
abbrev s__law_draw : Stmt := top 3
abbrev n__law_draw : List Str := ["tape", "many", "prime", "cell", "found"]
theorem sc__law_draw : FnScope n__law_draw ["tape", "many"] (defScope s__law_draw) := ⟨rfl, rfl, rfl, by decide +kernel, rfl, by decide +kernel, by decide +kernel⟩
abbrev s__law_code : Stmt := top 4
abbrev n__law_code : List Str := ["tape", "some", "many", "k"]
theorem sc__law_code : FnScope n__law_code ["tape"] (defScope s__law_code) := ⟨rfl, rfl, rfl, by decide +kernel, rfl, by decide +kernel, by decide +kernel⟩
abbrev s__law_rates : Stmt := top 5
abbrev n__law_rates : List Str := ["tape", "most", "found", "k", "spot", "share"]
theorem sc__law_rates : FnScope n__law_rates ["tape", "most"] (defScope s__law_rates) := ⟨rfl, rfl, rfl, by decide +kernel, rfl, by decide +kernel, by decide +kernel⟩
abbrev s__law_better : Stmt := top 6
abbrev n__law_better : List Str := ["rates", "one", "other"]
theorem sc__law_better : FnScope n__law_better ["rates", "one", "other"] (defScope s__law_better) := ⟨rfl, rfl, rfl, by decide +kernel, rfl, by decide +kernel, by decide +kernel⟩
abbrev s__law_row : Stmt := top 7
abbrev n__law_row : List Str := ["rates", "code", "day", "at"]
theorem sc__law_row : FnScope n__law_row ["rates", "code", "day"] (defScope s__law_row) := ⟨rfl, rfl, rfl, by decide +kernel, rfl, by decide +kernel, by decide +kernel⟩
abbrev s_law : Stmt := top 8
abbrev n_law : List Str := ["script", "tape", "turn", "one", "spots", "other", "both", "k", "code", "day", "wanted", "some", "head", "wide", "far", "later", "row"]
theorem sc_law : FnScope n_law ["script"] (defScope s_law) := ⟨rfl, rfl, rfl, by decide +kernel, rfl, by decide +kernel, by decide +kernel⟩
/-! ### plain -/
def dWhole : Dt → Bool
  | .int _ => true
  | _ => false
def dWithin (x : Dt) (lo hi : Int) : Bool := match x with
  | .int i => decide (lo ≤ i) && decide (i ≤ hi)
  | _ => false
def figs (s : Str) : Bool := s.cps.toList.all fun c => decide (c ∈ ("0123456789" : Str).cps.toList)
def dCode : Dt → Bool
  | .str s => decide (1 ≤ s.length) && decide (s.length ≤ 6) && figs s
  | _ => false
def dGood : Dt → Bool
  | .tup xs => decide (xs.length = 4) && xs.all fun p => dWithin p 0 99
  | _ => false
def isS (x : Dt) (s : Str) : Bool := match x with
  | .str t => decide (t = s)
  | _ => false
def dBook : Nat → Dt → Bool
  | 0, _ => false
  | n + 1, x => match x with
    | .tup [a, c] => isS a "code" && dCode c
    | .tup [a, m, c, l, h] => isS a "ask" && dWithin m 0 3 && dWithin c 1 99 && dBook n l && dBook n h
    | _ => false
theorem all_figs (s : Str) : (signs s).map (fun d => Dt.bl (match d with | .str c => subS c "0123456789" | _ => false)) = (s.cps.toList.map fun c => decide (c ∈ ("0123456789" : Str).cps.toList)).map Dt.bl := by
  unfold signs
  rw [List.map_map, List.map_map]
  refine List.map_congr_left fun c _ => ?_
  show Dt.bl (subS ⟨#[c]⟩ "0123456789") = _
  rw [sub_sign]; rfl
theorem int_nat {n m : Nat} : decide ((n : Int) ≤ (m : Int)) = decide (n ≤ m) := by
  by_cases h : n ≤ m
  · rw [decide_eq_true h, decide_eq_true (by omega)]
  · rw [decide_eq_false h, decide_eq_false (by omega)]
theorem dBook_no (n : Nat) (y : Dt) (hy : ∀ xs, y ≠ .tup xs) : dBook n y = false := by
  cases n with
  | zero => rfl
  | succ m => cases y <;> first | rfl | exact absurd rfl (hy _)
theorem dBook_len (n : Nat) (xs : List Dt) (h : ¬ (xs.length = 2 ∨ xs.length = 5)) : dBook n (.tup xs) = false := by
  cases n with
  | zero => rfl
  | succ m =>
    match xs, h with
    | [], _ => rfl
    | [_], _ => rfl
    | [_, _], h => exact absurd (.inl rfl) h
    | [_, _, _], _ => rfl
    | [_, _, _, _], _ => rfl
    | [_, _, _, _, _], h => exact absurd (.inr rfl) h
    | _ :: _ :: _ :: _ :: _ :: _ :: _, _ => rfl
theorem code_wf {x : Dt} (h : dCode x = true) : x.wf 20 = true ∧ x.dep = 0 := by
  cases x with
  | str s =>
    have h := Bool.and_eq_true_iff.mp (Bool.and_eq_true_iff.mp (show (decide (1 ≤ s.length) && decide (s.length ≤ 6) && figs s) = true from h)).1
    have := of_decide_eq_true h.2
    exact ⟨decide_eq_true (by omega), rfl⟩
  | _ => cases h
theorem within_wf {x : Dt} {a b : Int} (h : dWithin x a b = true) : x.wf 20 = true ∧ x.dep = 0 ∧ ∃ i, x = .int i ∧ a ≤ i ∧ i ≤ b := by
  cases x with
  | int i =>
    have h := Bool.and_eq_true_iff.mp (show (decide (a ≤ i) && decide (i ≤ b)) = true from h)
    exact ⟨rfl, rfl, i, rfl, of_decide_eq_true h.1, of_decide_eq_true h.2⟩
  | _ => cases h
theorem isS_eq {x : Dt} {s : Str} (h : isS x s = true) : x = .str s := by
  cases x with
  | str t => rw [of_decide_eq_true (show decide (t = s) = true from h)]
  | _ => cases h
theorem good_shape {x : Dt} (h : dGood x = true) : ∃ xs, x = .tup xs ∧ xs.length = 4 ∧ ∀ y ∈ xs, dWithin y 0 99 = true := by
  cases x with
  | tup xs =>
    have h := Bool.and_eq_true_iff.mp (show (decide (xs.length = 4) && xs.all fun p => dWithin p 0 99) = true from h)
    exact ⟨xs, rfl, of_decide_eq_true h.1, List.all_eq_true.mp h.2⟩
  | _ => cases h
theorem good_wf {x : Dt} (h : dGood x = true) : x.wf 20 = true ∧ x.dep ≤ 1 := by
  obtain ⟨xs, rfl, hl, hp⟩ := good_shape h
  exact ⟨wf_tup.mpr ⟨by omega, fun y hy => (within_wf (hp y hy)).1⟩, dep_tup.mpr fun y hy => by rw [(within_wf (hp y hy)).2.1]; omega⟩
theorem book_shape {n : Nat} {x : Dt} (h : dBook (n + 1) x = true) : (∃ c, x = .tup [.str "code", c] ∧ dCode c = true) ∨ ∃ m c l r, x = .tup [.str "ask", m, c, l, r] ∧ dWithin m 0 3 = true ∧ dWithin c 1 99 = true ∧ dBook n l = true ∧ dBook n r = true := by
  cases x with
  | tup xs =>
    match xs, h with
    | [a, c], h =>
      have h := Bool.and_eq_true_iff.mp (show (isS a "code" && dCode c) = true from h)
      exact .inl ⟨c, by rw [isS_eq h.1], h.2⟩
    | [a, m, c, l, r], h =>
      have h := Bool.and_eq_true_iff.mp (show (isS a "ask" && dWithin m 0 3 && dWithin c 1 99 && dBook n l && dBook n r) = true from h)
      have h2 := Bool.and_eq_true_iff.mp h.1
      have h3 := Bool.and_eq_true_iff.mp h2.1
      have h4 := Bool.and_eq_true_iff.mp h3.1
      exact .inr ⟨m, c, l, r, by rw [isS_eq h4.1], h4.2, h3.2, h2.2, h.2⟩
    | [], h => cases h
    | [_], h => cases h
    | [_, _, _], h => cases h
    | [_, _, _, _], h => cases h
    | _ :: _ :: _ :: _ :: _ :: _ :: _, h => cases h
  | _ => cases h
theorem book_wf : ∀ {n : Nat} {x : Dt}, dBook n x = true → x.wf 20 = true ∧ x.dep ≤ n
  | 0, x, h => by cases h
  | n + 1, x, h => by
    rcases book_shape h with ⟨c, rfl, hc⟩ | ⟨m, c, l, r, rfl, hm, hc, hl, hr⟩
    · obtain ⟨w, d⟩ := code_wf hc
      refine ⟨wf_tup.mpr ⟨Nat.le_of_ble_eq_true rfl, fun y hy => ?_⟩, dep_tup.mpr fun y hy => ?_⟩ <;> (simp only [List.mem_cons, List.not_mem_nil, or_false] at hy; rcases hy with rfl | rfl)
      · decide +kernel
      · exact w
      · exact Nat.zero_le _
      · omega
    · obtain ⟨w1, d1, _⟩ := within_wf hm
      obtain ⟨w2, d2, _⟩ := within_wf hc
      obtain ⟨w3, d3⟩ := book_wf hl
      obtain ⟨w4, d4⟩ := book_wf hr
      refine ⟨wf_tup.mpr ⟨Nat.le_of_ble_eq_true rfl, fun y hy => ?_⟩, dep_tup.mpr fun y hy => ?_⟩ <;> (simp only [List.mem_cons, List.not_mem_nil, or_false] at hy; rcases hy with rfl | rfl | rfl | rfl | rfl)
      · decide +kernel
      · exact w1
      · exact w2
      · exact w3
      · exact w4
      · exact Nat.zero_le _
      · omega
      · omega
      · omega
      · omega
def lets (s : Str) : Bool := s.cps.toList.all fun c => decide (c ∈ ("abcdefghijklmnopqrstuvwxyz" : Str).cps.toList)
def dName : Dt → Bool
  | .str s => decide (1 ≤ s.length) && decide (s.length ≤ 8) && lets s
  | _ => false
theorem all_lets (s : Str) : (signs s).map (fun d => Dt.bl (match d with | .str c => subS c "abcdefghijklmnopqrstuvwxyz" | _ => false)) = (s.cps.toList.map fun c => decide (c ∈ ("abcdefghijklmnopqrstuvwxyz" : Str).cps.toList)).map Dt.bl := by
  unfold signs
  rw [List.map_map, List.map_map]
  refine List.map_congr_left fun c _ => ?_
  show Dt.bl (subS ⟨#[c]⟩ "abcdefghijklmnopqrstuvwxyz") = _
  rw [sub_sign]; rfl
/-! ### books as trees -/
inductive Bk where
  | code (s : Str)
  | ask (m : Nat) (c : Int) (l h : Bk)
def Bk.d : Bk → Dt
  | .code s => .tup [.str "code", .str s]
  | .ask m c l h => .tup [.str "ask", .int m, .int c, l.d, h.d]
def Bk.ok : Nat → Bk → Prop
  | 0, _ => False
  | _ + 1, .code s => dCode (.str s) = true
  | n + 1, .ask m c l h => m < 4 ∧ 1 ≤ c ∧ c ≤ 99 ∧ l.ok n ∧ h.ok n
theorem bk_of : ∀ {n : Nat} {x : Dt}, dBook n x = true → ∃ b : Bk, x = b.d ∧ b.ok n
  | 0, x, h => by cases h
  | n + 1, x, h => by
    rcases book_shape h with ⟨c, rfl, hc⟩ | ⟨m, c, l, r, rfl, hm, hc, hl, hr⟩
    · cases c with
      | str s => exact ⟨.code s, rfl, hc⟩
      | _ => cases hc
    · obtain ⟨_, _, i, rfl, i0, i1⟩ := within_wf hm
      obtain ⟨_, _, j, rfl, j0, j1⟩ := within_wf hc
      obtain ⟨bl, rfl, ol⟩ := bk_of hl
      obtain ⟨br, rfl, or⟩ := bk_of hr
      refine ⟨.ask i.toNat j bl br, ?_, by omega, j0, j1, ol, or⟩
      show _ = Dt.tup [.str "ask", .int (i.toNat : Nat), .int j, bl.d, br.d]
      rw [Int.toNat_of_nonneg i0]
theorem Bk.ok_book : ∀ {n : Nat} {b : Bk}, b.ok n → dBook n b.d = true
  | 0, _, h => h.elim
  | n + 1, .code s, h => by
    show (decide (("code" : Str) = "code") && dCode (.str s)) = true
    rw [show dCode (.str s) = true from h]; rfl
  | n + 1, .ask m c l h, o => by
    obtain ⟨o1, o2, o3, o4, o5⟩ := o
    show (decide (("ask" : Str) = "ask") && dWithin (.int m) 0 3 && dWithin (.int c) 1 99 && dBook n l.d && dBook n h.d) = true
    rw [Bk.ok_book o4, Bk.ok_book o5]
    show (true && (decide (0 ≤ (m : Int)) && decide ((m : Int) ≤ 3)) && (decide (1 ≤ c) && decide (c ≤ 99)) && true && true) = true
    rw [decide_eq_true (by omega), decide_eq_true (by omega), decide_eq_true o2, decide_eq_true o3]; rfl
/-- a good's measures -/
abbrev gD (g : List Int) : Dt := .tup (g.map Dt.int)
def goodL (g : List Int) : Prop := g.length = 4 ∧ ∀ i ∈ g, 0 ≤ i ∧ i ≤ 99
theorem good_of {x : Dt} (h : dGood x = true) : ∃ g, x = gD g ∧ goodL g := by
  obtain ⟨xs, rfl, hl, hp⟩ := good_shape h
  have : ∀ xs : List Dt, (∀ y ∈ xs, dWithin y 0 99 = true) → ∃ g : List Int, xs = g.map Dt.int ∧ ∀ i ∈ g, 0 ≤ i ∧ i ≤ 99 := by
    intro xs
    induction xs with
    | nil => exact fun _ => ⟨[], rfl, fun i h => by cases h⟩
    | cons x xs ih =>
      intro h
      obtain ⟨_, _, i, rfl, i0, i1⟩ := within_wf (h x (List.mem_cons_self ..))
      obtain ⟨g, rfl, hg⟩ := ih fun y hy => h y (List.mem_cons_of_mem _ hy)
      exact ⟨i :: g, rfl, fun j hj => (List.mem_cons.mp hj).elim (fun e => e ▸ ⟨i0, i1⟩) (hg j)⟩
  obtain ⟨g, rfl, hg⟩ := this xs hp
  exact ⟨g, rfl, by simpa using hl, hg⟩
def gat (g : List Int) (m : Nat) : Int := (g[m]?).getD 0
theorem atI_g {g : List Int} {m : Nat} (h : m < g.length) : atI (g.map Dt.int) (m : Int) = some (.int (gat g m)) := by
  refine atI_nat ?_
  rw [List.getElem?_map, List.getElem?_eq_getElem h]
  unfold gat
  rw [List.getElem?_eq_getElem h]; rfl
theorem gat_mem {g : List Int} {m : Nat} (h : m < g.length) : gat g m ∈ g := by
  unfold gat
  rw [List.getElem?_eq_getElem h]; exact List.getElem_mem h
/-! ### where a book leads a good -/
def side (g : List Int) (m : Nat) (c : Int) : Bool := decide (gat g m < c)
def sideS (b : Bool) : Str := if b then "low" else "high"
def ledC (g : List Int) : Bk → Str
  | .code s => s
  | .ask m c l h => if side g m c then ledC g l else ledC g h
def ledP (g : List Int) : Bk → List Dt
  | .code _ => []
  | .ask m c l h => .tup [.int m, .int c, .str (sideS (side g m c))] :: (if side g m c then ledP g l else ledP g h)
def ledD (g : List Int) (b : Bk) : Dt := .tup [.str (ledC g b), .tup (ledP g b)]
theorem ledP_len {g : List Int} : ∀ {n : Nat} {b : Bk}, b.ok n → (ledP g b).length ≤ n
  | 0, _, h => h.elim
  | n + 1, .code s, h => by show 0 ≤ _; omega
  | n + 1, .ask m c l h, ⟨_, _, _, o1, o2⟩ => by
    show (if side g m c then ledP g l else ledP g h).length + 1 ≤ _
    split
    · have := ledP_len (g := g) o1; omega
    · have := ledP_len (g := g) o2; omega
theorem ledP_wf {g : List Int} : ∀ {n : Nat} {b : Bk}, b.ok n → ∀ x ∈ ledP g b, x.wf 20 = true ∧ x.dep ≤ 1
  | 0, _, h => h.elim
  | n + 1, .code s, h => fun x hx => by cases hx
  | n + 1, .ask m c l h, ⟨_, _, _, o1, o2⟩ => fun x hx => by
    rcases List.mem_cons.mp hx with rfl | hx
    · refine ⟨?_, Nat.le_refl _⟩
      unfold sideS; split <;> rfl
    · split at hx
      · exact ledP_wf o1 x hx
      · exact ledP_wf o2 x hx
theorem ledC_ok {g : List Int} : ∀ {n : Nat} {b : Bk}, b.ok n → dCode (.str (ledC g b)) = true
  | 0, _, h => h.elim
  | n + 1, .code s, h => h
  | n + 1, .ask m c l h, ⟨_, _, _, o1, o2⟩ => by
    show dCode (.str (if side g m c then ledC g l else ledC g h)) = true
    split
    · exact ledC_ok o1
    · exact ledC_ok o2
theorem led_wf {g : List Int} {n : Nat} {b : Bk} (hn : n ≤ 20) (h : b.ok n) : (ledD g b).wf 20 = true ∧ (ledD g b).dep ≤ 3 := by
  have hl := ledP_len (g := g) h
  have hw := ledP_wf (g := g) h
  have hc := code_wf (ledC_ok (g := g) h)
  refine ⟨wf_tup.mpr ⟨Nat.le_of_ble_eq_true rfl, fun y hy => ?_⟩, dep_tup.mpr fun y hy => ?_⟩ <;> (simp only [List.mem_cons, List.not_mem_nil, or_false] at hy; rcases hy with rfl | rfl)
  · exact hc.1
  · exact wf_tup.mpr ⟨by omega, fun x hx => (hw x hx).1⟩
  · exact Nat.zero_le _
  · exact dep_tup.mpr fun x hx => (hw x hx).2
/-! ### boxes of goods -/
abbrev Bx := List (Int × Int)
def pairD (p : Int × Int) : Dt := .tup [.int p.1, .int p.2]
abbrev boxD (bx : Bx) : Dt := .tup (bx.map pairD)
def boxO : Option Bx → Dt
  | none => .non
  | some bx => boxD bx
def bat (bx : Bx) (i : Nat) : Int × Int := (bx[i]?).getD (0, 0)
def narrow (bx : Bx) (m : Nat) (lo hi : Int) : Option Bx :=
  if max2 lo (bat bx m).1 ≤ min2 hi (bat bx m).2 then some (bx.take m ++ [(max2 lo (bat bx m).1, min2 hi (bat bx m).2)] ++ bx.drop (m + 1)) else none
def boxesL : Bk → Option Bx → List (Str × Bx)
  | _, none => []
  | .code s, some bx => [(s, bx)]
  | .ask m c l h, some bx => boxesL l (narrow bx m 0 (c - 1)) ++ boxesL h (narrow bx m c 99)
def okB (bx : Bx) : Prop := bx.length = 4 ∧ ∀ i, i < 4 → 0 ≤ (bat bx i).1 ∧ (bat bx i).1 ≤ (bat bx i).2 ∧ (bat bx i).2 ≤ 99
def inB (g : List Int) (bx : Bx) : Prop := ∀ i, i < 4 → (bat bx i).1 ≤ gat g i ∧ gat g i ≤ (bat bx i).2
def wide : Bx := [(0, 99), (0, 99), (0, 99), (0, 99)]
theorem max2_iff {a b c : Int} : max2 a b ≤ c ↔ a ≤ c ∧ b ≤ c := by unfold max2; split <;> omega
theorem min2_iff {a b c : Int} : c ≤ min2 a b ↔ c ≤ a ∧ c ≤ b := by unfold min2; split <;> omega
theorem max2_ge {a b : Int} : a ≤ max2 a b ∧ b ≤ max2 a b := by unfold max2; split <;> omega
theorem min2_le {a b : Int} : min2 a b ≤ a ∧ min2 a b ≤ b := by unfold min2; split <;> omega
theorem wide_ok : okB wide := ⟨rfl, fun i h => by
  match i, h with
  | 0, _ => decide
  | 1, _ => decide
  | 2, _ => decide
  | 3, _ => decide
  | i + 4, h => omega⟩
theorem wide_in {g : List Int} (h : goodL g) : inB g wide := fun i hi => by
  have hm := h.2 _ (gat_mem (g := g) (m := i) (by rw [h.1]; exact hi))
  match i, hi with
  | 0, _ => exact hm
  | 1, _ => exact hm
  | 2, _ => exact hm
  | 3, _ => exact hm
  | i + 4, h => omega
theorem put_set {α : Type} {xs : List α} {m : Nat} {x : α} (h : m < xs.length) : xs.take m ++ [x] ++ xs.drop (m + 1) = xs.set m x := by
  rw [List.set_eq_take_append_cons_drop, if_pos h]; simp
theorem bat_set {bx : Bx} {m i : Nat} {p : Int × Int} (h : m < bx.length) : bat (bx.set m p) i = if m = i then p else bat bx i := by
  unfold bat
  rw [List.getElem?_set]
  split
  · rename_i e; subst e; simp [h]
  · rfl
theorem narrow_ok {bx bx' : Bx} {m : Nat} {lo hi : Int} (hb : okB bx) (hm : m < 4) (h : narrow bx m lo hi = some bx') : okB bx' := by
  unfold narrow at h
  split at h
  · rename_i c
    have e := Option.some.inj h
    rw [put_set (by rw [hb.1]; exact hm)] at e
    subst e
    refine ⟨by rw [List.length_set]; exact hb.1, fun i h4 => ?_⟩
    rw [bat_set (by rw [hb.1]; exact hm)]
    split
    · have h1 := hb.2 m hm
      have := max2_ge (a := lo) (b := (bat bx m).1)
      have := min2_le (a := hi) (b := (bat bx m).2)
      refine ⟨by show 0 ≤ max2 _ _; omega, c, by show min2 _ _ ≤ 99; omega⟩
    · exact hb.2 i h4
  · cases h
/-- a good in a box, its measure within: in the narrowed one -/
theorem narrow_in {bx : Bx} {m : Nat} {lo hi : Int} {g : List Int} (hb : okB bx) (hm : m < 4) (hg : inB g bx) (h1 : lo ≤ gat g m) (h2 : gat g m ≤ hi) : ∃ bx', narrow bx m lo hi = some bx' ∧ inB g bx' := by
  have hgm := hg m hm
  have c : max2 lo (bat bx m).1 ≤ min2 hi (bat bx m).2 := Int.le_trans (max2_iff.mpr ⟨h1, hgm.1⟩) (min2_iff.mpr ⟨h2, hgm.2⟩)
  refine ⟨_, if_pos c, fun i hi' => ?_⟩
  rw [put_set (by rw [hb.1]; exact hm), bat_set (by rw [hb.1]; exact hm)]
  split
  · rename_i e; subst e
    exact ⟨max2_iff.mpr ⟨h1, hgm.1⟩, min2_iff.mpr ⟨h2, hgm.2⟩⟩
  · exact hg i hi'
theorem narrow_sub {bx bx' : Bx} {m : Nat} {lo hi : Int} {g : List Int} (hb : okB bx) (hm : m < 4) (h : narrow bx m lo hi = some bx') (hg : inB g bx') : inB g bx ∧ lo ≤ gat g m ∧ gat g m ≤ hi := by
  unfold narrow at h
  split at h
  · have e := Option.some.inj h
    rw [put_set (by rw [hb.1]; exact hm)] at e
    subst e
    have k : ∀ i, i < 4 → (if m = i then (max2 lo (bat bx m).1, min2 hi (bat bx m).2) else bat bx i).1 ≤ gat g i ∧ gat g i ≤ (if m = i then (max2 lo (bat bx m).1, min2 hi (bat bx m).2) else bat bx i).2 := fun i hi => by
      have := hg i hi
      rw [bat_set (by rw [hb.1]; exact hm)] at this
      exact this
    have km := k m hm
    rw [if_pos rfl] at km
    have k1 := max2_iff.mp km.1
    have k2 := min2_iff.mp km.2
    refine ⟨fun i hi => ?_, k1.1, k2.1⟩
    have ki := k i hi
    split at ki
    · rename_i e; subst e; exact ⟨k1.2, k2.2⟩
    · exact ki
  · cases h
/-- the boxes: of goods that come to the code; all of them -/
theorem boxes_ok : ∀ {n : Nat} {b : Bk} {bo : Option Bx}, b.ok n → (∀ bx, bo = some bx → okB bx) → ∀ p ∈ boxesL b bo, okB p.2 ∧ dCode (.str p.1) = true ∧ ∀ g, inB g p.2 → ledC g b = p.1 ∧ ∀ bx, bo = some bx → inB g bx
  | 0, _, _, h, _ => h.elim
  | n + 1, b, none, o, _ => fun p hp => by cases b <;> cases hp
  | n + 1, .code s, some bx, o, hb => fun p hp => by
    cases List.mem_singleton.mp hp
    exact ⟨hb bx rfl, o, fun g hg => ⟨rfl, fun _ e => by cases e; exact hg⟩⟩
  | n + 1, .ask m c l r, some bx, ⟨o1, o2, o3, o4, o5⟩, hb => fun p hp => by
    rcases List.mem_append.mp hp with hp | hp
    · obtain ⟨h1, h2, h3⟩ := boxes_ok o4 (fun bx' e => narrow_ok (hb bx rfl) o1 e) p hp
      refine ⟨h1, h2, fun g hg => ?_⟩
      obtain ⟨k1, k2⟩ := h3 g hg
      cases e : narrow bx m 0 (c - 1) with
      | none => rw [e] at hp; cases l <;> cases hp
      | some bx' =>
        obtain ⟨k3, k4, k5⟩ := narrow_sub (hb bx rfl) o1 e (k2 bx' e)
        refine ⟨?_, fun _ e => by cases e; exact k3⟩
        show (if side g m c then ledC g l else ledC g r) = _
        rw [if_pos (show side g m c = true from decide_eq_true (by omega))]; exact k1
    · obtain ⟨h1, h2, h3⟩ := boxes_ok o5 (fun bx' e => narrow_ok (hb bx rfl) o1 e) p hp
      refine ⟨h1, h2, fun g hg => ?_⟩
      obtain ⟨k1, k2⟩ := h3 g hg
      cases e : narrow bx m c 99 with
      | none => rw [e] at hp; cases r <;> cases hp
      | some bx' =>
        obtain ⟨k3, k4, k5⟩ := narrow_sub (hb bx rfl) o1 e (k2 bx' e)
        refine ⟨?_, fun _ e => by cases e; exact k3⟩
        show (if side g m c then ledC g l else ledC g r) = _
        rw [if_neg (by rw [show side g m c = false from decide_eq_false (by omega)]; exact Bool.false_ne_true)]; exact k1
theorem boxes_all : ∀ {n : Nat} {b : Bk} {bx : Bx} {g : List Int}, b.ok n → okB bx → goodL g → inB g bx → ∃ B, (ledC g b, B) ∈ boxesL b (some bx) ∧ inB g B
  | 0, _, _, _, h, _, _, _ => h.elim
  | n + 1, .code s, bx, g, o, hb, hg, hi => ⟨bx, List.mem_singleton.mpr rfl, hi⟩
  | n + 1, .ask m c l r, bx, g, ⟨o1, o2, o3, o4, o5⟩, hb, hg, hi => by
    have hgm := hg.2 _ (gat_mem (g := g) (m := m) (by rw [hg.1]; exact o1))
    show ∃ B, ((if side g m c then ledC g l else ledC g r), B) ∈ boxesL l (narrow bx m 0 (c - 1)) ++ boxesL r (narrow bx m c 99) ∧ inB g B
    by_cases hs : gat g m < c
    · rw [if_pos (show side g m c = true from decide_eq_true hs)]
      obtain ⟨bx', e, hi'⟩ := narrow_in hb o1 hi hgm.1 (show gat g m ≤ c - 1 by omega)
      obtain ⟨B, h1, h2⟩ := boxes_all o4 (narrow_ok hb o1 e) hg hi'
      exact ⟨B, List.mem_append_left _ (by rw [e]; exact h1), h2⟩
    · rw [if_neg (by rw [show side g m c = false from decide_eq_false hs]; exact Bool.false_ne_true)]
      obtain ⟨bx', e, hi'⟩ := narrow_in hb o1 hi (show c ≤ gat g m by omega) hgm.2
      obtain ⟨B, h1, h2⟩ := boxes_all o5 (narrow_ok hb o1 e) hg hi'
      exact ⟨B, List.mem_append_right _ (by rw [e]; exact h1), h2⟩
theorem boxes_len : ∀ {n : Nat} {b : Bk} {bo : Option Bx}, b.ok n → (boxesL b bo).length ≤ 2 ^ n
  | 0, _, _, h => h.elim
  | n + 1, b, none, o => by cases b <;> exact Nat.zero_le _
  | n + 1, .code s, some bx, o => Nat.one_le_two_pow
  | n + 1, .ask m c l r, some bx, ⟨o1, o2, o3, o4, o5⟩ => by
    have a := boxes_len (bo := narrow bx m 0 (c - 1)) o4
    have b := boxes_len (bo := narrow bx m c 99) o5
    show (boxesL l _ ++ boxesL r _).length ≤ _
    rw [List.length_append, Nat.pow_succ]
    omega
def corner (bx : Bx) : List Int := bx.map (·.1)
theorem corner_at {bx : Bx} {i : Nat} : gat (corner bx) i = (bat bx i).1 := by
  unfold gat corner bat
  rw [List.getElem?_map]
  cases bx[i]? <;> rfl
theorem corner_in {bx : Bx} (h : okB bx) : inB (corner bx) bx := fun i hi => by
  rw [corner_at]; exact ⟨Int.le_refl _, (h.2 i hi).2.1⟩
theorem corner_good {bx : Bx} (h : okB bx) : goodL (corner bx) := by
  refine ⟨by unfold corner; rw [List.length_map]; exact h.1, fun x hx => ?_⟩
  obtain ⟨i, hi, e⟩ := List.mem_iff_getElem.mp hx
  have hi4 : i < 4 := by unfold corner at hi; rw [List.length_map, h.1] at hi; exact hi
  have e2 : gat (corner bx) i = x := by unfold gat; rw [List.getElem?_eq_getElem hi]; exact e
  rw [← e2, corner_at]
  have := h.2 i hi4
  omega
def commonL : Bx → Bx → Option Bx
  | a :: as, b :: bs => if min2 a.2 b.2 < max2 a.1 b.1 then none else (commonL as bs).map ((max2 a.1 b.1, min2 a.2 b.2) :: ·)
  | _, _ => some []
theorem bat_s {p : Int × Int} {bx : Bx} {i : Nat} : bat (p :: bx) (i + 1) = bat bx i := rfl
theorem common_none : ∀ {a b : Bx}, commonL a b = none → ∃ i, i < a.length ∧ i < b.length ∧ min2 (bat a i).2 (bat b i).2 < max2 (bat a i).1 (bat b i).1
  | [], _, h => by cases h
  | _ :: _, [], h => by cases h
  | p :: as, q :: bs, h => by
    unfold commonL at h
    split at h
    · rename_i c; exact ⟨0, by simp, by simp, c⟩
    · cases e : commonL as bs with
      | none =>
        obtain ⟨i, h1, h2, h3⟩ := common_none e
        exact ⟨i + 1, by simpa using h1, by simpa using h2, h3⟩
      | some c => rw [e] at h; cases h
theorem common_some : ∀ {a b c : Bx}, commonL a b = some c → a.length = b.length → c.length = a.length ∧ ∀ i, i < a.length → (bat c i).1 = max2 (bat a i).1 (bat b i).1 ∧ (bat c i).2 = min2 (bat a i).2 (bat b i).2 ∧ (bat c i).1 ≤ (bat c i).2
  | [], [], c, h, _ => by cases h; exact ⟨rfl, fun i hi => by simp at hi⟩
  | [], _ :: _, _, _, h => by simp at h
  | _ :: _, [], _, _, h => by simp at h
  | p :: as, q :: bs, c, h, hl => by
    unfold commonL at h
    split at h
    · cases h
    · rename_i cc
      cases e : commonL as bs with
      | none => rw [e] at h; cases h
      | some d =>
        rw [e] at h
        cases h
        obtain ⟨h1, h2⟩ := common_some e (by simpa using hl)
        refine ⟨by simp [h1], fun i hi => ?_⟩
        cases i with
        | zero => exact ⟨rfl, rfl, by show max2 p.1 q.1 ≤ min2 p.2 q.2; omega⟩
        | succ i => exact h2 i (by simpa using hi)
theorem common_ok {a b c : Bx} (ha : okB a) (hb : okB b) (h : commonL a b = some c) : okB c ∧ (∀ g, inB g c → inB g a ∧ inB g b) ∧ ∀ g, inB g a → inB g b → inB g c := by
  obtain ⟨h1, h2⟩ := common_some h (by rw [ha.1, hb.1])
  rw [ha.1] at h1 h2
  refine ⟨⟨h1, fun i hi => ?_⟩, fun g hg => ⟨fun i hi => ?_, fun i hi => ?_⟩, fun g ga gb i hi => ?_⟩
  · obtain ⟨e1, e2, e3⟩ := h2 i hi
    have a1 := ha.2 i hi
    have := max2_ge (a := (bat a i).1) (b := (bat b i).1)
    have := min2_le (a := (bat a i).2) (b := (bat b i).2)
    exact ⟨by omega, e3, by omega⟩
  · obtain ⟨e1, e2, e3⟩ := h2 i hi
    have := hg i hi
    rw [e1, e2] at this
    exact ⟨(max2_iff.mp this.1).1, (min2_iff.mp this.2).1⟩
  · obtain ⟨e1, e2, e3⟩ := h2 i hi
    have := hg i hi
    rw [e1, e2] at this
    exact ⟨(max2_iff.mp this.1).2, (min2_iff.mp this.2).2⟩
  · obtain ⟨e1, e2, e3⟩ := h2 i hi
    rw [e1, e2]
    exact ⟨max2_iff.mpr ⟨(ga i hi).1, (gb i hi).1⟩, min2_iff.mpr ⟨(ga i hi).2, (gb i hi).2⟩⟩
theorem common_meets {a b : Bx} {g : List Int} (ha : okB a) (hb : okB b) (ga : inB g a) (gb : inB g b) : ∃ c, commonL a b = some c := by
  cases e : commonL a b with
  | some c => exact ⟨c, rfl⟩
  | none =>
    obtain ⟨i, h1, _, h3⟩ := common_none e
    have hi : i < 4 := by rw [ha.1] at h1; exact h1
    have k1 : max2 (bat a i).1 (bat b i).1 ≤ gat g i := max2_iff.mpr ⟨(ga i hi).1, (gb i hi).1⟩
    have k2 : gat g i ≤ min2 (bat a i).2 (bat b i).2 := min2_iff.mpr ⟨(ga i hi).2, (gb i hi).2⟩
    omega
/-! ### goods in their order -/
def ltI : List Int → List Int → Bool
  | [], [] => false
  | [], _ :: _ => true
  | _ :: _, [] => false
  | x :: xs, y :: ys => if x = y then ltI xs ys else decide (x < y)
theorem ltI_D : ∀ (g g' : List Int), ltD (gD g) (gD g') = ltI g g' := by
  suffices H : ∀ (g g' : List Int), ltDL (g.map Dt.int) (g'.map Dt.int) = ltI g g' from fun g g' => H g g'
  intro g
  induction g with
  | nil => intro g'; cases g' <;> rfl
  | cons x xs ih =>
    intro g'
    cases g' with
    | nil => rfl
    | cons y ys =>
      show (if (x == y) = true then ltDL (xs.map Dt.int) (ys.map Dt.int) else decide (x < y)) = if x = y then ltI xs ys else decide (x < y)
      rw [ih ys]
      by_cases h : x = y <;> simp [h]
theorem ltI_irr : ∀ g : List Int, ltI g g = false
  | [] => rfl
  | x :: xs => by show (if x = x then ltI xs xs else _) = false; rw [if_pos rfl]; exact ltI_irr xs
theorem ltI_tri : ∀ (g g' : List Int), ltI g g' = false → ltI g' g = false → g = g'
  | [], [], _, _ => rfl
  | [], _ :: _, h, _ => by cases h
  | _ :: _, [], _, h => by cases h
  | x :: xs, y :: ys, h1, h2 => by
    unfold ltI at h1 h2
    by_cases e : x = y
    · subst e
      rw [if_pos rfl] at h1 h2
      rw [ltI_tri xs ys h1 h2]
    · rw [if_neg e] at h1
      rw [if_neg (fun z => e z.symm)] at h2
      have := of_decide_eq_false h1
      have := of_decide_eq_false h2
      omega
theorem ltI_trans : ∀ (a b c : List Int), ltI a b = true → ltI b c = true → ltI a c = true
  | [], [], _, h, _ => by cases h
  | [], _ :: _, [], _, h => by cases h
  | [], _ :: _, _ :: _, _, _ => rfl
  | _ :: _, [], _, h, _ => by cases h
  | _ :: _, _ :: _, [], _, h => by cases h
  | x :: xs, y :: ys, z :: zs, h1, h2 => by
    unfold ltI at h1 h2 ⊢
    by_cases e : x = y
    · subst e
      rw [if_pos rfl] at h1
      by_cases e2 : x = z
      · subst e2
        rw [if_pos rfl] at h2 ⊢
        exact ltI_trans xs ys zs h1 h2
      · rw [if_neg e2] at h2 ⊢; exact h2
    · rw [if_neg e] at h1
      have h1 := of_decide_eq_true h1
      by_cases e2 : y = z
      · subst e2
        rw [if_neg e]; exact decide_eq_true h1
      · rw [if_neg e2] at h2
        have h2 := of_decide_eq_true h2
        rw [if_neg (by omega)]; exact decide_eq_true (by omega)
/-- nowhere greater: not behind it -/
theorem ltI_le : ∀ (g g' : List Int), g.length = g'.length → (∀ i, i < g.length → gat g i ≤ gat g' i) → ltI g' g = false
  | [], [], _, _ => rfl
  | [], _ :: _, h, _ => by simp at h
  | _ :: _, [], h, _ => by simp at h
  | x :: xs, y :: ys, hl, h => by
    have h0 : x ≤ y := h 0 (by simp)
    show (if y = x then ltI ys xs else decide (y < x)) = false
    by_cases e : y = x
    · rw [if_pos e]
      exact ltI_le xs ys (by simpa using hl) fun i hi => h (i + 1) (by simpa using hi)
    · rw [if_neg e]; exact decide_eq_false (by omega)
theorem corner_least {bx : Bx} {g : List Int} (hb : okB bx) (hg : goodL g) (h : inB g bx) : ltI g (corner bx) = false :=
  ltI_le _ _ (by rw [(corner_good hb).1, hg.1]) fun i hi => by
    rw [(corner_good hb).1] at hi
    rw [corner_at]; exact (h i hi).1
/-- the least of a list of goods -/
def minI (x : List Int) (xs : List (List Int)) : List Int := xs.foldl (fun a y => if ltI y a then y else a) x
theorem minI_D : ∀ (xs : List (List Int)) (x : List Int), minDt (gD x) (xs.map fun g => gD g) = gD (minI x xs)
  | [], x => rfl
  | y :: ys, x => by
    show minDt (if ltD (gD y) (gD x) then gD y else gD x) (ys.map fun g => gD g) = gD (minI (if ltI y x then y else x) ys)
    rw [ltI_D]
    have e : (if ltI y x = true then gD y else gD x) = gD (if ltI y x = true then y else x) := by split <;> rfl
    rw [e]; exact minI_D ys _
theorem minI_spec : ∀ (xs : List (List Int)) (x : List Int), minI x xs ∈ x :: xs ∧ ∀ y ∈ x :: xs, ltI y (minI x xs) = false
  | [], x => ⟨List.mem_cons_self .., fun y hy => by cases List.mem_singleton.mp hy; exact ltI_irr _⟩
  | z :: zs, x => by
    have ih := minI_spec zs (if ltI z x then z else x)
    show minI (if ltI z x then z else x) zs ∈ x :: z :: zs ∧ ∀ y ∈ x :: z :: zs, ltI y (minI (if ltI z x then z else x) zs) = false
    generalize hm : minI (if ltI z x then z else x) zs = m at ih ⊢
    obtain ⟨i1, i2⟩ := ih
    have back : ∀ y, ltI y m = false → ∀ u, ltI y u = true ∨ y = u → ltI u m = false := fun y hy u hu => by
      rcases hu with hu | rfl
      · cases e : ltI u m with
        | false => rfl
        | true => rw [ltI_trans _ _ _ hu e] at hy; cases hy
      · exact hy
    refine ⟨?_, fun y hy => ?_⟩
    · rcases List.mem_cons.mp i1 with h | h
      · rw [h]; split <;> simp
      · simp [h]
    · rcases List.mem_cons.mp hy with rfl | hy
      · cases c : ltI z y with
        | true =>
          rw [c, if_pos rfl] at i2
          exact back z (i2 z (List.mem_cons_self ..)) y (.inl c)
        | false =>
          rw [c, if_neg Bool.false_ne_true] at i2
          exact i2 y (List.mem_cons_self ..)
      · rcases List.mem_cons.mp hy with rfl | hy
        · cases c : ltI y x with
          | true =>
            rw [c, if_pos rfl] at i2
            exact i2 y (List.mem_cons_self ..)
          | false =>
            rw [c, if_neg Bool.false_ne_true] at i2
            have hx := i2 x (List.mem_cons_self ..)
            cases c2 : ltI x y with
            | true => exact back x hx y (.inl c2)
            | false => exact back x hx y (.inr (ltI_tri _ _ c2 c))
        · exact i2 y (List.mem_cons_of_mem _ hy)
/-! ### where two books part -/
def PartS (b1 b2 : Bk) (r : Dt) : Prop := (r = .non ∧ ∀ g, goodL g → ledC g b1 = ledC g b2) ∨ ∃ g, r = gD g ∧ goodL g ∧ ledC g b1 ≠ ledC g b2 ∧ ∀ g', goodL g' → ledC g' b1 ≠ ledC g' b2 → ltI g' g = false
theorem PartS.symm {b1 b2 : Bk} {r : Dt} (h : PartS b1 b2 r) : PartS b2 b1 r := by
  rcases h with ⟨h1, h2⟩ | ⟨g, h1, h2, h3, h4⟩
  · exact .inl ⟨h1, fun g hg => (h2 g hg).symm⟩
  · exact .inr ⟨g, h1, h2, fun e => h3 e.symm, fun g' hg' hn => h4 g' hg' fun e => hn e.symm⟩
theorem PartS.uniq {b1 b2 : Bk} {r r' : Dt} (h : PartS b1 b2 r) (h' : PartS b1 b2 r') : r = r' := by
  rcases h with ⟨h1, h2⟩ | ⟨g, h1, h2, h3, h4⟩
  · rcases h' with ⟨k1, k2⟩ | ⟨g', k1, k2, k3, k4⟩
    · rw [h1, k1]
    · exact absurd (h2 g' k2) k3
  · rcases h' with ⟨k1, k2⟩ | ⟨g', k1, k2, k3, k4⟩
    · exact absurd (k2 g h2) h3
    · rw [h1, k1, ltI_tri g g' (k4 g h2 h3) (h4 g' k2 k3)]
/-- what the two walks gather: the corners of what two boxes of unlike codes have in common -/
def cornersOf (p : Str × Bx) (q : Str × Bx) : List (List Int) := match commonL p.2 q.2 with
  | some c => if p.1 = q.1 then [] else [corner c]
  | none => []
def cornersL (ps qs : List (Str × Bx)) : List (List Int) := ps.flatMap fun p => qs.flatMap fun q => cornersOf p q
def partD (xs : List (List Int)) : Dt := match xs with
  | [] => .non
  | x :: xs => gD (minI x xs)
theorem parted_ok {n : Nat} {b1 b2 : Bk} (o1 : b1.ok n) (o2 : b2.ok n) : PartS b1 b2 (partD (cornersL (boxesL b1 (some wide)) (boxesL b2 (some wide)))) := by
  have w1 : ∀ bx, some wide = some bx → okB bx := fun bx e => by cases e; exact wide_ok
  have sound : ∀ x ∈ cornersL (boxesL b1 (some wide)) (boxesL b2 (some wide)), goodL x ∧ ledC x b1 ≠ ledC x b2 := fun x hx => by
    obtain ⟨p, hp, hx⟩ := List.mem_flatMap.mp hx
    obtain ⟨q, hq, hx⟩ := List.mem_flatMap.mp hx
    obtain ⟨p1, p2, p3⟩ := boxes_ok o1 w1 p hp
    obtain ⟨q1, q2, q3⟩ := boxes_ok o2 w1 q hq
    unfold cornersOf at hx
    split at hx
    · rename_i c e
      split at hx
      · cases hx
      · rename_i ne
        cases List.mem_singleton.mp hx
        obtain ⟨c1, c2, _⟩ := common_ok p1 q1 e
        have ci := c2 _ (corner_in c1)
        exact ⟨corner_good c1, by rw [(p3 _ ci.1).1, (q3 _ ci.2).1]; exact ne⟩
    · cases hx
  have full : ∀ g, goodL g → ledC g b1 ≠ ledC g b2 → ∃ x ∈ cornersL (boxesL b1 (some wide)) (boxesL b2 (some wide)), ltI g x = false := fun g hg hn => by
    obtain ⟨B1, m1, i1⟩ := boxes_all o1 wide_ok hg (wide_in hg)
    obtain ⟨B2, m2, i2⟩ := boxes_all o2 wide_ok hg (wide_in hg)
    obtain ⟨p1, _, _⟩ := boxes_ok o1 w1 _ m1
    obtain ⟨q1, _, _⟩ := boxes_ok o2 w1 _ m2
    obtain ⟨c, e⟩ := common_meets p1 q1 i1 i2
    obtain ⟨c1, _, c3⟩ := common_ok p1 q1 e
    refine ⟨corner c, List.mem_flatMap.mpr ⟨_, m1, List.mem_flatMap.mpr ⟨_, m2, ?_⟩⟩, corner_least c1 hg (c3 g i1 i2)⟩
    unfold cornersOf
    rw [e]
    show corner c ∈ if _ then _ else _
    rw [if_neg hn]; exact List.mem_singleton.mpr rfl
  generalize cornersL (boxesL b1 (some wide)) (boxesL b2 (some wide)) = xs at sound full ⊢
  cases xs with
  | nil =>
    refine .inl ⟨rfl, fun g hg => Classical.byContradiction fun hn => ?_⟩
    obtain ⟨x, hx, _⟩ := full g hg hn
    cases hx
  | cons x xs =>
    obtain ⟨m1, m2⟩ := minI_spec xs x
    obtain ⟨s1, s2⟩ := sound _ m1
    refine .inr ⟨_, rfl, s1, s2, fun g' hg' hn => ?_⟩
    obtain ⟨y, hy, hl⟩ := full g' hg' hn
    cases e : ltI g' (minI x xs) with
    | false => rfl
    | true =>
      cases e2 : ltI (minI x xs) y with
      | true => rw [ltI_trans _ _ _ e e2] at hl; cases hl
      | false =>
        have := ltI_tri _ _ e2 (m2 y hy)
        rw [this] at e
        rw [e] at hl; cases hl
theorem alk_ints : ∀ g g' : List Int, alkL (g.map Dt.int) (g'.map Dt.int) = true
  | [], g' => by cases g' <;> rfl
  | _ :: _, [] => rfl
  | _ :: xs, _ :: ys => by show (true && alkL (xs.map Dt.int) (ys.map Dt.int)) = true; rw [alk_ints xs ys]; rfl
theorem np_ints (g : List Int) : Dt.npL (g.map Dt.int) = true := npL_iff.mpr fun x hx => by obtain ⟨i, _, rfl⟩ := List.mem_map.mp hx; rfl
theorem dep_ints (g : List Int) : (gD g).dep ≤ 1 := dep_tup.mpr fun x hx => by obtain ⟨i, _, rfl⟩ := List.mem_map.mp hx; exact Nat.zero_le _
theorem ordAll_goods (xs : List (List Int)) : ordAll (xs.map fun g => gD g) := by
  refine ⟨npL_iff.mpr fun x hx => ?_, fun a ha b hb => ?_, fun a ha => ?_, depL_le.mpr fun x hx => ?_⟩
  · obtain ⟨g, _, rfl⟩ := List.mem_map.mp hx; exact np_ints g
  · obtain ⟨g, _, rfl⟩ := List.mem_map.mp ha
    obtain ⟨g', _, rfl⟩ := List.mem_map.mp hb
    exact alk_ints g g'
  · obtain ⟨g, _, rfl⟩ := List.mem_map.mp ha
    intro z; cases z
  · obtain ⟨g, _, rfl⟩ := List.mem_map.mp hx
    have := dep_ints g; omega
theorem ordOk_goods (g g' : List Int) : ordOk (gD g) (gD g') := ⟨np_ints g, np_ints g', alk_ints g g', (fun z => by cases z), .inl (by have := dep_ints g; omega)⟩
/-! ### a book without idle questions -/
def prunedB : Bk → Bx → Bk
  | .code s, _ => .code s
  | .ask m c l h, bx => match narrow bx m 0 (c - 1), narrow bx m c 99 with
    | none, some a => prunedB h a
    | some b, none => prunedB l b
    | some b, some a => .ask m c (prunedB l b) (prunedB h a)
    | none, none => .code ""
theorem narrow_one {bx : Bx} {m : Nat} {c : Int} (hb : okB bx) (hm : m < 4) (h : narrow bx m 0 (c - 1) = none) : ∃ a, narrow bx m c 99 = some a := by
  have hi := corner_in hb
  have hg := corner_good hb
  have hgm := hg.2 _ (gat_mem (g := corner bx) (m := m) (by rw [hg.1]; exact hm))
  by_cases hs : gat (corner bx) m < c
  · obtain ⟨a, e, _⟩ := narrow_in hb hm hi hgm.1 (show gat (corner bx) m ≤ c - 1 by omega)
    rw [h] at e; cases e
  · obtain ⟨a, e, _⟩ := narrow_in hb hm hi (show c ≤ gat (corner bx) m by omega) hgm.2
    exact ⟨a, e⟩
theorem ok_up : ∀ {n : Nat} {b : Bk}, b.ok n → b.ok (n + 1)
  | 0, _, h => h.elim
  | n + 1, .code s, h => h
  | n + 1, .ask m c l r, ⟨h1, h2, h3, o1, o2⟩ => ⟨h1, h2, h3, ok_up o1, ok_up o2⟩
theorem ok_mono {n k : Nat} {b : Bk} (h : b.ok n) (hk : n ≤ k) : b.ok k := by
  induction hk with
  | refl => exact h
  | step _ ih => exact ok_up ih
theorem pruned_okB : ∀ {n : Nat} {b : Bk} {bx : Bx}, b.ok n → okB bx → (prunedB b bx).ok n
  | 0, _, _, h, _ => h.elim
  | n + 1, .code s, _, h, _ => h
  | n + 1, .ask m c l r, bx, ⟨h1, h2, h3, o1, o2⟩, hb => by
    unfold prunedB
    cases e1 : narrow bx m 0 (c - 1) with
    | none =>
      obtain ⟨a, e2⟩ := narrow_one hb h1 e1
      rw [e2]; exact ok_up (pruned_okB o2 (narrow_ok hb h1 e2))
    | some b =>
      cases e2 : narrow bx m c 99 with
      | none => exact ok_up (pruned_okB o1 (narrow_ok hb h1 e1))
      | some a => exact ⟨h1, h2, h3, pruned_okB o1 (narrow_ok hb h1 e1), pruned_okB o2 (narrow_ok hb h1 e2)⟩
section
variable {P : Program} {wd : World} {K : PySem.W.Frag} {mg : Str → Option Value} {base : Heap} {f : Addr} {fd : FuncData}
theorem ok_law_draw {Vw : Wd} (bi : BI mg) (F : Fun K "_law_draw" "_law_draw" s__law_draw f fd) : FnOk P wd K mg base CX0 1 f fd ["tape", "many"] (spOf (tpW Vw) K (cDraw Vw)) := by
  refine ok_draw F sc__law_draw fun cdv A outer s H E => ?_
  have tp : ∀ {pos : Pos}, PE (cxOf CX0 P wd K mg base ["tape", "many", "prime", "cell", "found"] "_law_draw" (defScope s__law_draw) f cdv A outer s H E).nox (.Name "tape" pos) (tVar 0) := pe_var rfl (.inl rfl)
  have mn : ∀ {pos : Pos}, PE (cxOf CX0 P wd K mg base ["tape", "many", "prime", "cell", "found"] "_law_draw" (defScope s__law_draw) f cdv A outer s H E).nox (.Name "many" pos) (tVar 1) := pe_var rfl (.inl rfl)
  have pr : ∀ {pos : Pos}, PE (cxOf CX0 P wd K mg base ["tape", "many", "prime", "cell", "found"] "_law_draw" (defScope s__law_draw) f cdv A outer s H E).nox (.Name "prime" pos) (tVar 2) := pe_var rfl (.inl rfl)
  have ce : ∀ {pos : Pos}, PE (cxOf CX0 P wd K mg base ["tape", "many", "prime", "cell", "found"] "_law_draw" (defScope s__law_draw) f cdv A outer s H E).nox (.Name "cell" pos) (tVar 3) := pe_var rfl (.inl rfl)
  have fo : ∀ {pos : Pos}, PE (cxOf CX0 P wd K mg base ["tape", "many", "prime", "cell", "found"] "_law_draw" (defScope s__law_draw) f cdv A outer s H E).nox (.Name "found" pos) (tVar 4) := pe_var rfl (.inl rfl)
  have gp : ∀ {pos : Pos}, PG (cxOf CX0 P wd K mg base ["tape", "many", "prime", "cell", "found"] "_law_draw" (defScope s__law_draw) f cdv A outer s H E).nox (.Name "prime" pos) (gName 2) := pg_name (i := 2) sc__law_draw.nd rfl (.inl rfl)
  have gc : ∀ {pos : Pos}, PG (cxOf CX0 P wd K mg base ["tape", "many", "prime", "cell", "found"] "_law_draw" (defScope s__law_draw) f cdv A outer s H E).nox (.Name "cell" pos) (gName 3) := pg_name (i := 3) sc__law_draw.nd rfl (.inl rfl)
  have gf : ∀ {pos : Pos}, PG (cxOf CX0 P wd K mg base ["tape", "many", "prime", "cell", "found"] "_law_draw" (defScope s__law_draw) f cdv A outer s H E).nox (.Name "found" pos) (gName 4) := pg_name (i := 4) sc__law_draw.nd rfl (.inl rfl)
  exact pss_cons (ps_asg pe_int gp)
    (pss_cons (ps_if (pt_cmpR op_lt (pe_ix ix_list tp pe_int (fun _ _ => rfl)) mn rfl)
        (pss_cons (ps_asg pe_int gc)
        (pss_cons (ps_if (pt_cmpR op_gt (pe_callB call_len_seq (by rfl) bi.len PySem.boot_len (pa_cons (pe_ix ix_list tp pe_int (fun _ _ => rfl)) pa_nil)) pe_int rfl)
            (pss_one (ps_asg (pe_ix ix_list (pe_ix ix_list tp pe_int (fun _ _ => rfl)) (pe_op op_mod (pe_ix ix_list tp pe_int (fun _ _ => rfl)) (pe_callB call_len_seq (by rfl) bi.len PySem.boot_len (pa_cons (pe_ix ix_list tp pe_int (fun _ _ => rfl)) pa_nil))) (fun _ _ => rfl)) gc)) pss_nil)
        (pss_cons (ps_if (pw_or (pt_cmpR op_ge (pe_ix ix_list tp pe_int (fun _ _ => rfl)) (pe_callB call_len_seq (by rfl) bi.len PySem.boot_len (pa_cons (pe_ix ix_list tp pe_int (fun _ _ => rfl)) pa_nil)) rfl) (pw_or1 (pt_cmpR op_lt ce (pe_op op_pow pe_int pe_int) rfl))).pt
            (pss_cons (ps_asg (pe_op op_mod (pe_op op_add ce (pe_op op_mul pe_int (pe_ix ix_list tp pe_int (fun _ _ => rfl)))) pr) gc)
            (pss_cons (ps_asg (pe_op op_mod (pe_op op_add (pe_op op_add (pe_op op_mul ce ce) (pe_op op_mul pe_int ce)) pe_int) pr) gc)
            (pss_one (ps_asg (pe_op op_mod (pe_op op_add (pe_op op_mul ce ce) pe_int) pr) gc)))) pss_nil)
        (pss_cons (ps_asg (pe_op op_add (pe_ix ix_list tp pe_int (fun _ _ => rfl)) pe_int) (pg_sub tp pe_int set_list))
        (pss_one (ps_asg ce (pg_sub tp pe_int set_list)))))))
      pss_nil)
    (pss_cons (ps_asg (pe_op op_mod (pe_ix ix_list tp pe_int (fun _ _ => rfl)) mn) gf)
    (pss_cons (ps_asg (pe_op op_fdivW (pe_ix ix_list tp pe_int (fun _ _ => rfl)) mn) (pg_sub tp pe_int set_list))
    (pss_one (ps_ret fo)))))
def cLCode : Ct UU := fun ds w Q => ∃ T v, w = mkW T v ∧ ds = [.ref T] ∧ ∀ s, dCode (.str s) = true → Q (.str s) w
theorem ok_law_code (bi : BI mg) (F : Fun K "_law_code" "_law_code" s__law_code f fd) (h__law_draw : Cal UU P wd K mg base "_law_draw" 1 (cDraw unitW)) : FnOk P wd K mg base CX0 2 f fd ["tape"] (spOf UU K cLCode) := by
  refine ok_def F sc__law_code (fun cdv A outer s H E hr => (dss_cons (ds_set (i := 1) sc__law_code.nd rfl (.inl rfl) (df_lst (da_cons (de_str (by decide +kernel)) (da_cons (de_str (by decide +kernel)) (da_cons (de_str (by decide +kernel)) (da_cons (de_str (by decide +kernel)) (da_cons (de_str (by decide +kernel)) (da_cons (de_str (by decide +kernel)) da_nil))))))).de) (dss_cons (ds_set (i := 2) sc__law_code.nd rfl (.inl rfl) (de_add de_int.bo (de_cal h__law_draw (hr.mono (by first | decide | omega)) (by rfl) (da_cons (de_var 0) (da_cons de_int da_nil))).bo)) (dss_one (ds_ret (de_ix (df_cat (de_var 1).bo (df_lst (da_cons (de_join (de_str (by decide +kernel)).bo (df_comp (own := [("k", 3)]) rfl sc__law_code.nd (di_range1 (by rfl) bi.range (da_cons (de_var 2) da_nil)) (blkOk_by (own := [("k", 3)]) (N := n__law_code) (sc := defScope s__law_code) (by decide +kernel)) (fun _ _ _ _ _ => (dg_name (i := 3) sc__law_code.nd rfl (.inl rfl))) (fun _ _ _ _ _ => dts_nil) (fun _ _ _ _ _ => (de_ix (de_str (by decide +kernel)).bo (de_cal h__law_draw (hr.mono (by first | decide | omega)) (by rfl) (da_cons (de_var 0) (da_cons de_int da_nil))).bo))).bo) da_nil)).bo).bo (de_cal h__law_draw (hr.mono (by first | decide | omega)) (by rfl) (da_cons (de_var 0) (da_cons de_int da_nil))).bo)))))) (fun ds w Q h => ?_) (fun ds w Q h => ?_)
  · obtain ⟨T, v, _, rfl, _⟩ := h; rfl
  · obtain ⟨T, v, rfl, rfl, h⟩ := h
    walk_at "my ev"
    refine fun n n0 n1 => ⟨⟨by omega, by omega⟩, ?_⟩
    refine goC_some (fun x => ∃ c ∈ ("0123456789" : Str).cps.toList, x = .str (one c)) _ _ (fun d hd R r => ?_) (by rw [len_rng]; exact sl1000 (by simp; omega)) (fun x h => by cases h) fun xs hl hp => ?_
    · walk_at "my ev"
      exact fun m m0 m1 => ⟨by decide, str_ex m0 m1 fun c hc => r _ ⟨c, hc, rfl⟩⟩
    · obtain ⟨cs, rfl, hc⟩ := ones_of hp
      have hcl : cs.length = (1 + n).toNat := by rw [len_rng] at hl; simpa using hl
      rw [allS_map]
      have ej : Txt.join (Str.ofString "") (cs.map one) = ⟨cs.toArray⟩ := join_ones cs
      show _ ∧ _
      rw [ej]
      walk_at "my ev"
      refine ⟨by rw [sum_ones]; show cs.length + (cs.map one).length * 0 ≤ 16777216; omega, szle rfl, fun m m0 m1 => at_ex m0 m1 fun z hz => ?_⟩
      rcases List.mem_append.mp hz with hz | hz
      · simp only [List.mem_cons, List.not_mem_nil, or_false] at hz
        rcases hz with rfl | rfl | rfl | rfl | rfl | rfl <;> exact h _ (by rfl)
      · cases List.mem_singleton.mp hz
        refine h _ ?_
        have e1 : (⟨cs.toArray⟩ : Str).length = cs.length := by simp [Str.length]
        show (decide (1 ≤ (⟨cs.toArray⟩ : Str).length) && decide ((⟨cs.toArray⟩ : Str).length ≤ 6) && figs ⟨cs.toArray⟩) = true
        rw [e1, decide_eq_true (by omega), decide_eq_true (by omega)]
        show (cs.all fun c => decide (c ∈ ("0123456789" : Str).cps.toList)) = true
        exact List.all_eq_true.mpr fun c h => decide_eq_true (hc c h)
/-! ### rates -/
structure Rt where
  head : Str
  day : Int
  share : Int
  piece : Int
def Rt.d (r : Rt) : Dt := .tup [.str r.head, .int r.day, .int r.share, .int r.piece]
def Rt.ok (r : Rt) : Prop := dCode (.str r.head) = true ∧ (0 ≤ r.day ∧ r.day ≤ 9999) ∧ (0 ≤ r.share ∧ r.share ≤ 100) ∧ 0 ≤ r.piece ∧ r.piece ≤ 1000
def Rt.spot (r : Rt) : List Key := spotK r.head r.day
def Rt.pay (r : Rt) : Dt := .tup [.int r.share, .int r.piece]
def Rt.ent (r : Rt) : List Key × Dt := (r.spot, r.pay)
def ltR (a b : Rt) : Bool := if a.head = b.head then decide (a.day < b.day) else ltS a.head b.head
theorem spot_eq {a b : Rt} : a.spot = b.spot ↔ a.head = b.head ∧ a.day = b.day := by
  unfold Rt.spot spotK
  constructor
  · intro h
    injection h with h1 h2
    injection h2 with h2
    injection h1 with h1
    injection h2 with h2
    exact ⟨h1, h2⟩
  · rintro ⟨h1, h2⟩; rw [h1, h2]
theorem ltR_irr (a : Rt) : ltR a a = false := by unfold ltR; rw [if_pos rfl]; exact decide_eq_false (Int.lt_irrefl _)
theorem ltR_trans {a b c : Rt} (h1 : ltR a b = true) (h2 : ltR b c = true) : ltR a c = true := by
  unfold ltR at h1 h2 ⊢
  by_cases e1 : a.head = b.head
  · rw [if_pos e1] at h1
    by_cases e2 : b.head = c.head
    · rw [if_pos e2] at h2
      rw [if_pos (e1.trans e2)]
      have := of_decide_eq_true h1
      have := of_decide_eq_true h2
      exact decide_eq_true (by omega)
    · rw [if_neg e2] at h2
      rw [if_neg (fun z => e2 (e1.symm.trans z)), e1]; exact h2
  · rw [if_neg e1] at h1
    by_cases e2 : b.head = c.head
    · rw [if_neg (fun z => e1 (z.trans e2.symm)), ← e2]; exact h1
    · rw [if_neg e2] at h2
      by_cases e3 : a.head = c.head
      · have := ltS_trans h1 h2
        rw [e3, ltS_irr] at this; cases this
      · rw [if_neg e3]; exact ltS_trans h1 h2
theorem ltR_tri {a b : Rt} (h1 : ltR a b = false) (h2 : ltR b a = false) : a.spot = b.spot := by
  unfold ltR at h1 h2
  by_cases e : a.head = b.head
  · rw [if_pos e] at h1
    rw [if_pos e.symm] at h2
    have := of_decide_eq_false h1
    have := of_decide_eq_false h2
    exact spot_eq.mpr ⟨e, by omega⟩
  · rw [if_neg e] at h1
    rw [if_neg (fun z => e z.symm)] at h2
    exact absurd (ltS_tri h1 h2) e
theorem ltR_D (a b : Rt) : ltD (ksD a.spot) (ksD b.spot) = ltR a b := by
  show (if (a.head == b.head) = true then (if (a.day == b.day) = true then false else decide (a.day < b.day)) else ltS a.head b.head) = ltR a b
  unfold ltR
  by_cases e : a.head = b.head
  · rw [if_pos (beq_iff_eq.mpr e), if_pos e]
    by_cases e2 : a.day = b.day
    · rw [if_pos (beq_iff_eq.mpr e2), decide_eq_false (by omega)]
    · rw [if_neg (by simpa using e2)]
  · rw [if_neg (by simpa using e), if_neg e]
def leR (a b : Rt) : Bool := !ltR b a
theorem leR_pairs (es : List Rt) : (es.mergeSort leR).Pairwise fun a b => leR a b = true := List.pairwise_mergeSort (fun a b c h1 h2 => by
  unfold leR at *
  cases q : ltR c a with
  | false => rfl
  | true =>
    have h1 : ltR b a = false := by simpa using h1
    have h2 : ltR c b = false := by simpa using h2
    cases q2 : ltR b c with
    | true => rw [ltR_trans q2 q] at h1; cases h1
    | false =>
      have e := spot_eq.mp (ltR_tri q2 h2)
      have : ltR c a = ltR b a := by unfold ltR; rw [e.1, e.2]
      rw [this, h1] at q; cases q) (fun a b => by
  unfold leR
  cases q : ltR b a with
  | false => rfl
  | true =>
    cases q2 : ltR a b with
    | false => rfl
    | true =>
      have := ltR_trans q q2
      rw [ltR_irr] at this; cases this) es
theorem rates_up {es : List Rt} (h : (es.map Rt.spot).Nodup) : (es.mergeSort leR).Pairwise fun a b => ltR a b = true := by
  have nd : (es.mergeSort leR).Pairwise fun a b => a.spot ≠ b.spot := List.pairwise_map.mp (((List.mergeSort_perm es leR).map Rt.spot).nodup_iff.mpr h)
  refine List.Pairwise.imp₂ (fun a b h1 h2 => ?_) (leR_pairs es) nd
  have h1 : ltR b a = false := by simpa [leR] using h1
  cases q : ltR a b with
  | true => rfl
  | false => exact absurd (ltR_tri q h1) h2
def sameR (a b : Rt) : Bool := decide (a.spot = b.spot)
def putR (es : List Rt) (r : Rt) : List Rt := if es.any (fun e => sameR e r) = true then es.map (fun e => if sameR e r = true then r else e) else es ++ [r]
theorem putR_ent {es : List Rt} {r : Rt} : dput (es.map Rt.ent) r.spot r.pay = (putR es r).map Rt.ent := by
  unfold dput putR dhas
  rw [List.any_map]
  have e : ((fun p : List Key × Dt => decide (p.1 = r.spot)) ∘ Rt.ent) = fun e => sameR e r := rfl
  rw [e]
  split
  · rw [List.map_map, List.map_map]
    refine List.map_congr_left fun x _ => ?_
    show (if x.spot = r.spot then (x.spot, r.pay) else x.ent) = (if sameR x r = true then r else x).ent
    by_cases c : x.spot = r.spot
    · rw [if_pos c, if_pos (show sameR x r = true from decide_eq_true c), c]; rfl
    · rw [if_neg c, if_neg (by unfold sameR; rw [decide_eq_false c]; exact Bool.false_ne_true)]
  · rw [List.map_append]; rfl
theorem putR_mem {es : List Rt} {r x : Rt} (h : x ∈ putR es r) : x = r ∨ x ∈ es := by
  unfold putR at h
  split at h
  · obtain ⟨e, he, z⟩ := List.mem_map.mp h
    split at z
    · exact .inl z.symm
    · rw [← z]; exact .inr he
  · rcases List.mem_append.mp h with h | h
    · exact .inr h
    · exact .inl (List.mem_singleton.mp h)
theorem putR_len {es : List Rt} {r : Rt} : (putR es r).length ≤ es.length + 1 := by
  unfold putR
  split
  · rw [List.length_map]; exact Nat.le_succ _
  · rw [List.length_append]; exact Nat.le_refl _
theorem putR_nodup {es : List Rt} {r : Rt} (h : (es.map Rt.spot).Nodup) : ((putR es r).map Rt.spot).Nodup := by
  unfold putR
  split
  · rw [List.map_map]
    have : es.map (Rt.spot ∘ fun e => if sameR e r = true then r else e) = es.map Rt.spot := List.map_congr_left fun x _ => by
      show (if sameR x r = true then r else x).spot = x.spot
      split
      · rename_i c; exact (of_decide_eq_true c).symm
      · rfl
    rw [this]; exact h
  · rename_i c
    rw [List.map_append]
    refine List.nodup_append.mpr ⟨h, by simp, fun x hx y hy => ?_⟩
    cases List.mem_singleton.mp hy
    intro z
    obtain ⟨e, he, ee⟩ := List.mem_map.mp hx
    exact c (List.any_eq_true.mpr ⟨e, he, decide_eq_true (ee.trans z)⟩)
theorem dval_ent {es : List Rt} (h : (es.map Rt.spot).Nodup) {r : Rt} (hr : r ∈ es) : dval (es.map Rt.ent) r.spot = some r.pay := by
  induction es with
  | nil => cases hr
  | cons e es ih =>
    obtain ⟨h1, h2⟩ := List.nodup_cons.mp (show (e.spot :: es.map Rt.spot).Nodup from h)
    show (if e.spot = r.spot then some e.pay else dval (es.map Rt.ent) r.spot) = _
    rcases List.mem_cons.mp hr with rfl | hr
    · rw [if_pos rfl]
    · rw [if_neg (fun z => h1 (by rw [z]; exact List.mem_map.mpr ⟨r, hr, rfl⟩))]
      exact ih h2 hr
theorem rows_ent {es : List Rt} (h : (es.map Rt.spot).Nodup) : rowsOf (es.map Rt.ent) = (es.mergeSort leR).map Rt.d := by
  unfold rowsOf
  rw [List.map_map]
  have e : (es.map ((fun x => x.fst) ∘ Rt.ent)).mergeSort ksLe = (es.mergeSort leR).map Rt.spot := by
    refine (List.map_mergeSort fun a _ b _ => ?_).symm
    show (!ltR b a) = !ltD (ksD b.spot) (ksD a.spot)
    rw [ltR_D]
  rw [e, List.map_map]
  refine List.map_congr_left fun r hr => ?_
  have hr := List.mem_mergeSort.mp hr
  show rowOf (es.map Rt.ent) r.spot = r.d
  unfold rowOf
  rw [dval_ent h hr]; rfl
def RatesOk (rs : List Rt) : Prop := (∀ r ∈ rs, r.ok) ∧ rs.Pairwise fun a b => ltR a b = true
def cLRates (K : PySem.W.Frag) (TT : List (Addr × Str)) : Ct UU := fun ds w Q => ∃ (T : Addr) (v : unitW.W) (n : Nat), w = mkW T v ∧ (vK v = K ∧ vTabs v = TT) ∧ ds = [.ref T, .int n] ∧ n ≤ 20 ∧ ∀ (rs : List Rt) (v' : unitW.W), RatesOk rs → rs.length ≤ n → (vK v' = K ∧ vTabs v' = TT) → Q (.tup (rs.map Rt.d)) (mkW T v')
theorem ok_law_rates {TT : List (Addr × Str)} (bi : BI mg) (F : Fun K "_law_rates" "_law_rates" s__law_rates f fd) (h__law_draw : Cal UU P wd K mg base "_law_draw" 1 (cDraw unitW)) (h__law_code : Cal UU P wd K mg base "_law_code" 2 cLCode) : FnOk P wd K mg base CX0 3 f fd ["tape", "most"] (spOf UU K (cLRates K TT)) := by
  refine ok_def F sc__law_rates (fun cdv A outer s H E hr => (dss_cons (ds_set (i := 2) sc__law_rates.nd rfl (by first | exact Or.inl rfl | exact Or.inr rfl) de_newT) (dss_cons (ds_for PassesOwn.never rfl (di_range1 (by rfl) bi.range (da_cons (de_cal h__law_draw (hr.mono (by first | decide | omega)) (by rfl) (da_cons (de_var 0) (da_cons (de_add (de_var 1).bo de_int.bo) da_nil))) da_nil)) (dg_name (i := 3) sc__law_rates.nd rfl (.inl rfl)) (dss_cons (ds_set (i := 4) sc__law_rates.nd rfl (.inl rfl) (de_tupK (de_cal h__law_code (hr.mono (by first | decide | omega)) (by rfl) (da_cons (de_var 0) da_nil)) (de_ix (df_lst (da_cons de_int (da_cons de_int (da_cons de_int (da_cons (de_cal h__law_draw (hr.mono (by first | decide | omega)) (by rfl) (da_cons (de_var 0) (da_cons de_int da_nil))) da_nil))))).bo (de_cal h__law_draw (hr.mono (by first | decide | omega)) (by rfl) (da_cons (de_var 0) (da_cons de_int da_nil))).bo))) (dss_cons (ds_set (i := 5) sc__law_rates.nd rfl (.inl rfl) (de_ix (df_lst (da_cons de_int (da_cons de_int (da_cons de_int (da_cons (de_cal h__law_draw (hr.mono (by first | decide | omega)) (by rfl) (da_cons (de_var 0) (da_cons de_int da_nil))) da_nil))))).bo (de_cal h__law_draw (hr.mono (by first | decide | omega)) (by rfl) (da_cons (de_var 0) (da_cons de_int da_nil))).bo)) (dss_one (ds_putT (K := K) rfl hr.units (de_var 2) (de_var 4) (de_tup (da_cons (de_var 5) (da_cons (de_ix (df_lst (da_cons de_int (da_cons de_int (da_cons (de_cal h__law_draw (hr.mono (by first | decide | omega)) (by rfl) (da_cons (de_var 0) (da_cons de_int da_nil))) da_nil)))).bo (de_cal h__law_draw (hr.mono (by first | decide | omega)) (by rfl) (da_cons (de_var 0) (da_cons de_int da_nil))).bo) da_nil)))))))) (dss_one (ds_ret (de_tuple (by rfl) bi.tuple (df_rowsT (K := K) (own := [("spot", 4)]) (m := 4) (n := 2) rfl sc__law_rates.nd (pi_list (pe_callB (cr_sortedDT rfl hr.units) (by rfl) bi.sorted (by decide +kernel) (pa_cons (pe_var (i := 2) rfl (by first | exact Or.inl rfl | exact Or.inr (Or.inl rfl) | exact Or.inr (Or.inr rfl))) pa_nil) (by decide) (by decide) (by rfl) (by rfl))) (blkOk_by (own := [("spot", 4)]) (N := n__law_rates) (sc := defScope s__law_rates) (by decide +kernel)) (fun _ _ _ _ _ => pg_name (i := 4) sc__law_rates.nd rfl (.inl rfl)) (fun _ _ _ _ _ => pe_op op_addD (pe_var (i := 4) rfl (by first | exact Or.inl rfl | exact Or.inr (Or.inl rfl) | exact Or.inr (Or.inr rfl))) (pe_dget (lt1 hr.units) (pe_var (i := 2) rfl (by first | exact Or.inl rfl | exact Or.inr (Or.inl rfl) | exact Or.inr (Or.inr rfl))) (pe_var (i := 4) rfl (by first | exact Or.inl rfl | exact Or.inr (Or.inl rfl) | exact Or.inr (Or.inr rfl))) (by intro _ _; rfl)))).bo)))))) (fun ds w Q h => ?_) (fun ds w Q h => ?_)
  · obtain ⟨T, v, n, _, _, rfl, _⟩ := h; rfl
  · obtain ⟨T, v, n, rfl, hv, rfl, hn, h⟩ := h
    walk_at "my go"
    refine fun p _ => ⟨by omega, by omega, fun m m0 m1 => ⟨⟨by omega, by omega⟩, ?_⟩⟩
    refine goF_rng (fun k ρ w' => ∃ s3 s4 s5 v' es, ρ = [some (.d (.ref T)), some (.d (.int n)), some (.d (.ref p)), s3, s4, s5] ∧ (vK v' = K ∧ vTabs v' = TT) ∧ vGet v' p = some (.t (es.map Rt.ent)) ∧ (∀ r ∈ es, r.ok) ∧ (es.map Rt.spot).Nodup ∧ es.length ≤ k ∧ w' = mkW T v') _ _ _ _ ?_ ⟨none, none, none, vNew v p (.t []), [], rfl, hv, vGet_new, (fun r hr => by cases hr), List.nodup_nil, Nat.le_refl _, rfl⟩ ?_
    · rintro k hk _ _ ⟨s3, s4, s5, v', es, rfl, hv', hg, hok, hnd, hl, rfl⟩ R hR
      walk_at "my go"
      refine ⟨T, v', rfl, rfl, fun s hs => ?_⟩
      try walk_at "my go"
      refine fun a a0 a1 b b0 b1 => at_ex b0 b1 fun z hz => ?_
      obtain ⟨i, rfl, i0, i1⟩ : ∃ i : Int, z = .int i ∧ 0 ≤ i ∧ i ≤ 9999 := by
        simp only [List.mem_cons, List.not_mem_nil, or_false] at hz
        rcases hz with rfl | rfl | rfl | rfl <;> exact ⟨_, rfl, by omega, by omega⟩
      refine ⟨.inr s, .inl i, rfl, rfl, fun q => ?_⟩
      try walk_at "my go"
      refine fun a a0 a1 b b0 b1 => at_ex b0 b1 fun z hz => ?_
      obtain ⟨sh, rfl, sh0, sh1⟩ : ∃ i : Int, z = .int i ∧ 0 ≤ i ∧ i ≤ 100 := by
        simp only [List.mem_cons, List.not_mem_nil, or_false] at hz
        rcases hz with rfl | rfl | rfl | rfl <;> exact ⟨_, rfl, by omega, by omega⟩
      refine fun a a0 a1 b b0 b1 => at_ex b0 b1 fun z hz => ?_
      obtain ⟨pc, rfl, pc0, pc1⟩ : ∃ i : Int, z = .int i ∧ 0 ≤ i ∧ i ≤ 1000 := by
        simp only [List.mem_cons, List.not_mem_nil, or_false] at hz
        rcases hz with rfl | rfl | rfl <;> exact ⟨_, rfl, by omega, by omega⟩
      have hk : k < m.toNat := hk
      refine ⟨p, q, [.inr s, .inl i], es.map Rt.ent, rfl, rfl, vHas_ts, hg, hv'.1, szlt (by rw [List.length_map]; omega), ?_⟩
      refine hR _ _ ⟨_, _, _, vPut (vTs v' q [.inr s, .inl i]) p (.t (dput (es.map Rt.ent) (Rt.spot ⟨s, i, sh, pc⟩) (Rt.pay ⟨s, i, sh, pc⟩))), putR es ⟨s, i, sh, pc⟩, rfl, hv', ?_, fun r hr => ?_, putR_nodup hnd, ?_, rfl⟩
      · rw [← putR_ent]
        exact vGet_put hg
      · rcases putR_mem hr with rfl | hr
        · exact ⟨hs, ⟨i0, i1⟩, ⟨sh0, sh1⟩, pc0, pc1⟩
        · exact hok r hr
      · have := putR_len (es := es) (r := ⟨s, i, sh, pc⟩); omega
    · rintro _ _ ⟨s3, s4, s5, v', es, rfl, hv', hg, hok, hnd, hl, rfl⟩
      walk_at "my go"
      refine ⟨p, es.map Rt.ent, (show 4 < 6 by decide), rfl, hg, hv'.1, Nat.le_of_lt (szlt (by rw [List.length_map]; omega)), fun x hx => ?_, ?_⟩
      · obtain ⟨r, _, rfl⟩ := List.mem_map.mp hx
        exact ⟨r.head, r.day, _, rfl, rfl, rfl⟩
      · rw [rows_ent hnd]
        exact h _ v' ⟨fun r hr => hok r (List.mem_mergeSort.mp hr), rates_up hnd⟩ (by rw [List.length_mergeSort]; omega) hv'
def within2 (f t : Dt) : Bool := match f with
  | .int i => dWithin t i 9999
  | _ => false
def dTreaty : Dt → Bool
  | .tup [l, h, f, t, s] => dName l && dCode h && dWithin f 0 9999 && within2 f t && dWithin s 0 100
  | _ => false
structure Tr where
  land : Str
  head : Str
  first : Int
  last : Int
  share : Int
def Tr.d (t : Tr) : Dt := .tup [.str t.land, .str t.head, .int t.first, .int t.last, .int t.share]
def Tr.ok (t : Tr) : Prop := dName (.str t.land) = true ∧ dCode (.str t.head) = true ∧ 0 ≤ t.share ∧ t.share ≤ 100
theorem treaty_of {x : Dt} (h : dTreaty x = true) : ∃ t : Tr, x = t.d ∧ t.ok := by
  cases x with
  | tup xs =>
    match xs, h with
    | [l, h, f, t, s], hh =>
      have h1 := Bool.and_eq_true_iff.mp (show (dName l && dCode h && dWithin f 0 9999 && within2 f t && dWithin s 0 100) = true from hh)
      have h2 := Bool.and_eq_true_iff.mp h1.1
      have h3 := Bool.and_eq_true_iff.mp h2.1
      have h4 := Bool.and_eq_true_iff.mp h3.1
      obtain ⟨_, _, i, rfl, _, _⟩ := within_wf h3.2
      obtain ⟨_, _, j, rfl, _, _⟩ := within_wf (show dWithin t i 9999 = true from h2.2)
      obtain ⟨_, _, k, rfl, k0, k1⟩ := within_wf h1.2
      cases l with
      | str l =>
        cases h with
        | str h => exact ⟨⟨l, h, i, j, k⟩, rfl, h4.1, h4.2, k0, k1⟩
        | _ => cases h4.2
      | _ => cases h4.1
    | [], h => cases h
    | [_], h => cases h
    | [_, _], h => cases h
    | [_, _, _], h => cases h
    | [_, _, _, _], h => cases h
    | _ :: _ :: _ :: _ :: _ :: _ :: _, h => cases h
  | _ => cases h
theorem treaties_of : ∀ {xs : List Dt}, (∀ x ∈ xs, dTreaty x = true) → ∃ ts : List Tr, xs = ts.map Tr.d ∧ ∀ t ∈ ts, t.ok
  | [], _ => ⟨[], rfl, fun r hr => by cases hr⟩
  | x :: xs, h => by
    obtain ⟨r, rfl, hr⟩ := treaty_of (h x (List.mem_cons_self ..))
    obtain ⟨rs, rfl, hrs⟩ := treaties_of fun y hy => h y (List.mem_cons_of_mem _ hy)
    exact ⟨r :: rs, rfl, fun q hq => (List.mem_cons.mp hq).elim (fun e => e ▸ hr) (hrs q)⟩
/-! ### fractions -/
def fracQ (q : Rat) : Dt := .tup [.int q.num, .int (q.den : Int)]
theorem frac_parts (t b : Nat) (hb : b ≠ 0) : (mkRat (t : Int) b).num = (t : Int) / ((Nat.gcd t b : Nat) : Int) ∧ (((mkRat (t : Int) b).den : Nat) : Int) = (b : Int) / ((Nat.gcd t b : Nat) : Int) := by
  rw [Rat.mkRat_def, dif_neg hb, Rat.normalize_eq]
  exact ⟨rfl, by simp⟩
theorem lo_mul {i j : Int} (hi : i.natAbs < 2 ^ 200) (hj : j.natAbs < 2 ^ 200) : CMulW i j := by
  have b : ∀ n : Nat, n < 2 ^ 200 → n.log2 < 201 := fun n h => by
    by_cases z : n = 0
    · subst z; decide
    · exact (Nat.log2_lt z).mpr (Nat.lt_trans h (by decide))
  show _ + _ < 1000000
  have := b _ hi
  have := b _ hj
  omega
theorem lo_div {i j : Int} (h0 : 0 < j) (hj : j.natAbs < 2 ^ 200) : CDivW i j := by
  refine ⟨h0, ?_⟩
  by_cases z : j.natAbs = 0
  · rw [z]; decide
  · exact (Nat.log2_lt z).mpr (Nat.lt_trans hj (Nat.pow_lt_pow_right (by decide) (by decide)))
def cDivisor : Ct UU := fun ds w Q => ∃ a b : Nat, ds = [.int a, .int b] ∧ Q (.int (Nat.gcd a b : Nat)) w
theorem gcd_step {a b : Nat} : Nat.gcd b (a % b) = Nat.gcd a b := by
  rw [Nat.gcd_comm b (a % b), ← Nat.gcd_rec, Nat.gcd_comm]
theorem max2_one (n : Nat) (h : n ≠ 0) : max2 1 (n : Int) = (n : Int) := by unfold max2; split <;> omega
theorem frac_dt {t b : Nat} (hb : b ≠ 0) : fracQ (mkRat (t : Int) b) = .tup [.int ((t : Int) / max2 1 ((Nat.gcd t b : Nat) : Int)), .int ((b : Int) / max2 1 ((Nat.gcd t b : Nat) : Int))] := by
  obtain ⟨h1, h2⟩ := frac_parts t b hb
  have hg : Nat.gcd t b ≠ 0 := fun z => hb (Nat.eq_zero_of_gcd_eq_zero_right z)
  unfold fracQ
  rw [h1, h2, max2_one _ hg]
def cFrac : Ct UU := fun ds w Q => ∃ t b : Nat, ds = [.int t, .int b] ∧ b ≠ 0 ∧ t < 2 ^ 200 ∧ b < 2 ^ 200 ∧ Q (fracQ (mkRat (t : Int) b)) w
def cAdded : Ct UU := fun ds w Q => ∃ p q : Rat, ds = [fracQ p, fracQ q] ∧ 0 ≤ p.num ∧ 0 ≤ q.num ∧ p.num < 2 ^ 60 ∧ q.num < 2 ^ 60 ∧ p.den < 2 ^ 60 ∧ q.den < 2 ^ 60 ∧ Q (fracQ (p + q)) w
/-! ### rows and treaties for a good -/
theorem code_len {s : Str} (h : dCode (.str s) = true) : 1 ≤ s.length ∧ s.length ≤ 6 := by
  have h := Bool.and_eq_true_iff.mp (Bool.and_eq_true_iff.mp (show (decide (1 ≤ s.length) && decide (s.length ≤ 6) && figs s) = true from h)).1
  exact ⟨of_decide_eq_true h.1, of_decide_eq_true h.2⟩
def rtAt (rs : List Rt) (k : Nat) : Rt := (rs[k]?).getD ⟨"", 0, 0, 0⟩
def appR (code : Str) (day : Int) (r : Rt) : Bool := Txt.startswith code r.head && decide (r.day ≤ day)
theorem enumD_at {xs : List Dt} {k : Nat} (h' : k < (enumD 0 xs).length) (h : k < xs.length) : (enumD 0 xs)[k] = .tup [.int ((k : Nat) : Int), xs[k]] := by
  obtain ⟨x, h1, h2⟩ := enumD_get (List.getElem?_eq_getElem h')
  rw [List.getElem?_eq_getElem h] at h1
  cases h1
  rw [h2, Nat.zero_add]
def keyR (r : Rt) (p : Nat) : List Int := [(r.head.length : Int), r.day, (p : Int)]
def entsR (code : Str) (day : Int) : Nat → List Rt → List (List Int)
  | _, [] => []
  | k, r :: rs => (if appR code day r = true then [keyR r k] else []) ++ entsR code day (k + 1) rs
theorem entsR_snoc {code : Str} {day : Int} {r : Rt} : ∀ (k : Nat) (rs : List Rt), entsR code day k (rs ++ [r]) = entsR code day k rs ++ (if appR code day r = true then [keyR r (k + rs.length)] else [])
  | k, [] => by show (if _ then _ else _) ++ [] = [] ++ _; rw [List.append_nil]; rfl
  | k, x :: rs => by
    show (if _ then _ else _) ++ entsR code day (k + 1) (rs ++ [r]) = ((if _ then _ else _) ++ entsR code day (k + 1) rs) ++ _
    rw [entsR_snoc (k + 1) rs, List.append_assoc, List.length_cons, show k + 1 + rs.length = k + (rs.length + 1) by omega]
theorem entsR_mem {code : Str} {day : Int} : ∀ (k : Nat) (rs : List Rt) (g : List Int), g ∈ entsR code day k rs ↔ ∃ q, q < rs.length ∧ appR code day (rtAt rs q) = true ∧ g = keyR (rtAt rs q) (k + q)
  | k, [], g => ⟨(fun h => by cases h), (fun ⟨q, h, _⟩ => by simp at h)⟩
  | k, r :: rs, g => by
    show g ∈ (if _ then _ else _) ++ entsR code day (k + 1) rs ↔ _
    rw [List.mem_append, entsR_mem (k + 1) rs g]
    constructor
    · rintro (h | ⟨q, h1, h2, h3⟩)
      · split at h
        · rename_i c
          cases List.mem_singleton.mp h
          exact ⟨0, by simp, c, rfl⟩
        · cases h
      · exact ⟨q + 1, by simpa using h1, h2, by rw [h3, show k + 1 + q = k + (q + 1) by omega]; rfl⟩
    · rintro ⟨q, h1, h2, h3⟩
      cases q with
      | zero => left; rw [if_pos (show appR code day r = true from h2)]; exact List.mem_singleton.mpr h3
      | succ q => right; exact ⟨q, by simpa using h1, h2, by rw [h3, show k + 1 + q = k + (q + 1) by omega]; rfl⟩
theorem entsR_len {code : Str} {day : Int} : ∀ (k : Nat) (rs : List Rt), (entsR code day k rs).length ≤ rs.length
  | _, [] => Nat.le_refl _
  | k, r :: rs => by
    have := entsR_len (code := code) (day := day) (k + 1) rs
    show ((if _ then _ else _) ++ entsR code day (k + 1) rs).length ≤ _
    rw [List.length_append, List.length_cons]
    split <;> simp <;> omega
def RowS (rs : List Rt) (code : Str) (day : Int) : Option Nat → Prop
  | none => ∀ r ∈ rs, appR code day r = false
  | some p => p < rs.length ∧ appR code day (rtAt rs p) = true ∧ ∀ q, q < rs.length → appR code day (rtAt rs q) = true → ltI (keyR (rtAt rs p) p) (keyR (rtAt rs q) q) = false
def placeD : Option Nat → Dt
  | none => .non
  | some p => .int (p : Int)
def maxI (x : List Int) (xs : List (List Int)) : List Int := xs.foldl (fun a y => if ltI a y then y else a) x
theorem maxI_D : ∀ (xs : List (List Int)) (x : List Int), maxDt (gD x) (xs.map fun g => gD g) = gD (maxI x xs)
  | [], _ => rfl
  | y :: xs, x => by
    show maxDt (if ltD (gD x) (gD y) then gD y else gD x) (xs.map fun g => gD g) = gD (maxI (if ltI x y then y else x) xs)
    rw [ltI_D]
    cases ltI x y <;> exact maxI_D xs _
theorem maxI_spec : ∀ (xs : List (List Int)) (x : List Int), maxI x xs ∈ x :: xs ∧ ∀ y ∈ x :: xs, ltI (maxI x xs) y = false
  | [], x => ⟨List.mem_singleton.mpr rfl, fun y hy => by cases List.mem_singleton.mp hy; exact ltI_irr _⟩
  | z :: zs, x => by
    have ih := maxI_spec zs (if ltI x z then z else x)
    show maxI (if ltI x z then z else x) zs ∈ x :: z :: zs ∧ ∀ y ∈ x :: z :: zs, ltI (maxI (if ltI x z then z else x) zs) y = false
    generalize hm : maxI (if ltI x z then z else x) zs = m at ih ⊢
    obtain ⟨i1, i2⟩ := ih
    have back : ∀ y u, ltI m u = false → ltI y u = true ∨ y = u → ltI m y = false := fun y u h hu => by
      rcases hu with hu | rfl
      · cases e : ltI m y with
        | false => rfl
        | true => rw [ltI_trans _ _ _ e hu] at h; cases h
      · exact h
    refine ⟨?_, fun y hy => ?_⟩
    · rcases List.mem_cons.mp i1 with h | h
      · rw [h]; split <;> simp
      · simp [h]
    · cases c : ltI x z with
      | true =>
        rw [c, if_pos rfl] at i2
        rcases List.mem_cons.mp hy with rfl | hy
        · exact back _ z (i2 z (List.mem_cons_self ..)) (.inl c)
        · rcases List.mem_cons.mp hy with rfl | hy
          · exact i2 _ (List.mem_cons_self ..)
          · exact i2 y (List.mem_cons_of_mem _ hy)
      | false =>
        rw [c, if_neg Bool.false_ne_true] at i2
        rcases List.mem_cons.mp hy with rfl | hy
        · exact i2 _ (List.mem_cons_self ..)
        · rcases List.mem_cons.mp hy with rfl | hy
          · have h := i2 x (List.mem_cons_self ..)
            cases c2 : ltI y x with
            | true => exact back _ x h (.inl c2)
            | false => exact back _ x h (.inr (ltI_tri _ _ c2 c))
          · exact i2 y (List.mem_cons_of_mem _ hy)
def cRowFor : Ct UU := fun ds w Q => ∃ (rs : List Rt) (code : Str) (day : Int), ds = [.tup (rs.map Rt.d), .str code, .int day] ∧ rs.length ≤ 1000 ∧ (∀ r ∈ rs, r.ok) ∧ ∀ res, RowS rs code day res → Q (placeD res) w
theorem row_res {rs : List Rt} {code : Str} {day : Int} {x : List Int} {xs : List (List Int)} (h : entsR code day 0 rs = x :: xs) : ∃ p, maxI x xs = keyR (rtAt rs p) p ∧ RowS rs code day (some p) := by
  obtain ⟨m1, m2⟩ := maxI_spec xs x
  rw [← h] at m1 m2
  obtain ⟨p, h1, h2, h3⟩ := (entsR_mem 0 rs _).mp m1
  rw [Nat.zero_add] at h3
  refine ⟨p, h3, h1, h2, fun q q1 q2 => ?_⟩
  have := m2 (keyR (rtAt rs q) q) ((entsR_mem 0 rs _).mpr ⟨q, q1, q2, by rw [Nat.zero_add]⟩)
  rw [h3] at this; exact this
def trAt (ts : List Tr) (k : Nat) : Tr := (ts[k]?).getD ⟨"", "", 0, 0, 0⟩
def appT (land : Dt) (code : Str) (day : Int) (t : Tr) : Bool := eqd (.str t.land) land && (Txt.startswith code t.head && (decide (t.first ≤ day) && decide (day ≤ t.last)))
def keyT (t : Tr) (p : Nat) : List Int := [t.share, (p : Int)]
def entsT (land : Dt) (code : Str) (day : Int) : Nat → List Tr → List (List Int)
  | _, [] => []
  | k, r :: rs => (if appT land code day r = true then [keyT r k] else []) ++ entsT land code day (k + 1) rs
theorem entsT_snoc {land : Dt} {code : Str} {day : Int} {r : Tr} : ∀ (k : Nat) (rs : List Tr), entsT land code day k (rs ++ [r]) = entsT land code day k rs ++ (if appT land code day r = true then [keyT r (k + rs.length)] else [])
  | k, [] => by show (if _ then _ else _) ++ [] = [] ++ _; rw [List.append_nil]; rfl
  | k, x :: rs => by
    show (if _ then _ else _) ++ entsT land code day (k + 1) (rs ++ [r]) = ((if _ then _ else _) ++ entsT land code day (k + 1) rs) ++ _
    rw [entsT_snoc (k + 1) rs, List.append_assoc, List.length_cons, show k + 1 + rs.length = k + (rs.length + 1) by omega]
theorem entsT_mem {land : Dt} {code : Str} {day : Int} : ∀ (k : Nat) (rs : List Tr) (g : List Int), g ∈ entsT land code day k rs ↔ ∃ q, q < rs.length ∧ appT land code day (trAt rs q) = true ∧ g = keyT (trAt rs q) (k + q)
  | k, [], g => ⟨(fun h => by cases h), (fun ⟨q, h, _⟩ => by simp at h)⟩
  | k, r :: rs, g => by
    show g ∈ (if _ then _ else _) ++ entsT land code day (k + 1) rs ↔ _
    rw [List.mem_append, entsT_mem (k + 1) rs g]
    constructor
    · rintro (h | ⟨q, h1, h2, h3⟩)
      · split at h
        · rename_i c
          cases List.mem_singleton.mp h
          exact ⟨0, by simp, c, rfl⟩
        · cases h
      · exact ⟨q + 1, by simpa using h1, h2, by rw [h3, show k + 1 + q = k + (q + 1) by omega]; rfl⟩
    · rintro ⟨q, h1, h2, h3⟩
      cases q with
      | zero => left; rw [if_pos (show appT land code day r = true from h2)]; exact List.mem_singleton.mpr h3
      | succ q => right; exact ⟨q, by simpa using h1, h2, by rw [h3, show k + 1 + q = k + (q + 1) by omega]; rfl⟩
theorem entsT_len {land : Dt} {code : Str} {day : Int} : ∀ (k : Nat) (rs : List Tr), (entsT land code day k rs).length ≤ rs.length
  | _, [] => Nat.le_refl _
  | k, r :: rs => by
    have := entsT_len (land := land) (code := code) (day := day) (k + 1) rs
    show ((if _ then _ else _) ++ entsT land code day (k + 1) rs).length ≤ _
    rw [List.length_append, List.length_cons]
    split <;> simp <;> omega
def TreS (ts : List Tr) (land : Dt) (code : Str) (day : Int) : Option Nat → Prop
  | none => ∀ t ∈ ts, appT land code day t = false
  | some p => p < ts.length ∧ appT land code day (trAt ts p) = true ∧ ∀ q, q < ts.length → appT land code day (trAt ts q) = true → ltI (keyT (trAt ts q) q) (keyT (trAt ts p) p) = false
def treD (ts : List Tr) : Option Nat → Dt
  | none => .non
  | some p => .tup [.int (trAt ts p).share, .int (p : Int)]
def landOk : Dt → Prop
  | .str _ => True
  | .non => True
  | _ => False
def cTreatyFor : Ct UU := fun ds w Q => ∃ (ts : List Tr) (land : Dt) (code : Str) (day : Int), ds = [.tup (ts.map Tr.d), .str code, land, .int day] ∧ landOk land ∧ ts.length ≤ 1000 ∧ ∀ res, TreS ts land code day res → Q (treD ts res) w
theorem tre_res {ts : List Tr} {land : Dt} {code : Str} {day : Int} {x : List Int} {xs : List (List Int)} (h : entsT land code day 0 ts = x :: xs) : ∃ p, minI x xs = keyT (trAt ts p) p ∧ TreS ts land code day (some p) := by
  obtain ⟨m1, m2⟩ := minI_spec xs x
  rw [← h] at m1 m2
  obtain ⟨p, h1, h2, h3⟩ := (entsT_mem 0 ts _).mp m1
  rw [Nat.zero_add] at h3
  refine ⟨p, h3, h1, h2, fun q q1 q2 => ?_⟩
  have := m2 (keyT (trAt ts q) q) ((entsT_mem 0 ts _).mpr ⟨q, q1, q2, by rw [Nat.zero_add]⟩)
  rw [h3] at this; exact this
/-! ### dues -/
def dueQ (sh pc pieces value : Int) : Rat := mkRat (sh * value) 100 + ((pc * pieces : Int) : Rat)
def effS (row : Rt) (ts : List Tr) : Option Nat → Int
  | some q => if (trAt ts q).share < row.share then (trAt ts q).share else row.share
  | none => row.share
def effT (row : Rt) (ts : List Tr) : Option Nat → Dt
  | some q => if (trAt ts q).share < row.share then .int (q : Int) else .non
  | none => .non
def dueD (rs : List Rt) (ts : List Tr) (p : Nat) (tr : Option Nat) (pieces value : Int) : Dt := .tup [fracQ (dueQ (effS (rtAt rs p) ts tr) (rtAt rs p).piece pieces value), .int (p : Int), effT (rtAt rs p) ts tr]
def cDue : Ct UU := fun ds w Q => ∃ (rs : List Rt) (ts : List Tr) (code : Str) (land : Dt) (day pieces value : Int), ds = [.tup (rs.map Rt.d), .tup (ts.map Tr.d), .str code, land, .int day, .int pieces, .int value] ∧ rs.length ≤ 1000 ∧ ts.length ≤ 1000 ∧ (∀ r ∈ rs, r.ok) ∧ (∀ t ∈ ts, t.ok) ∧ landOk land ∧ (0 ≤ pieces ∧ pieces ≤ 10000000) ∧ (0 ≤ value ∧ value ≤ 10000000) ∧ (∃ r ∈ rs, appR code day r = true) ∧
  ∀ p tr, RowS rs code day (some p) → TreS ts land code day tr → Q (dueD rs ts p tr pieces value) w
theorem rtAt_mem {rs : List Rt} {p : Nat} (h : p < rs.length) : rtAt rs p ∈ rs := by
  unfold rtAt
  rw [List.getElem?_eq_getElem h]; exact List.getElem_mem h
theorem trAt_mem {ts : List Tr} {p : Nat} (h : p < ts.length) : trAt ts p ∈ ts := by
  unfold trAt
  rw [List.getElem?_eq_getElem h]; exact List.getElem_mem h
theorem rate_ix {rs : List Rt} {p : Nat} (h : p < rs.length) : atI (rs.map Rt.d) (p : Int) = some (rtAt rs p).d := by
  refine atI_nat ?_
  unfold rtAt
  rw [List.getElem?_map, List.getElem?_eq_getElem h]; rfl
theorem fracQ_int (n : Int) : Dt.tup [.int n, .int 1] = fracQ (n : Rat) := by
  unfold fracQ
  rw [Rat.num_intCast, Rat.den_intCast]; rfl
theorem frac_small {t b : Nat} (hb : b ≠ 0) : 0 ≤ (mkRat (t : Int) b).num ∧ (mkRat (t : Int) b).num ≤ t ∧ (mkRat (t : Int) b).den ≤ b := by
  obtain ⟨h1, h2⟩ := frac_parts t b hb
  rw [h1]
  refine ⟨Int.ediv_nonneg (by omega) (by omega), Int.ediv_le_self _ (by omega), ?_⟩
  have : (b : Int) / ((Nat.gcd t b : Nat) : Int) ≤ b := Int.ediv_le_self _ (by omega)
  omega
theorem effS_range {row : Rt} {ts : List Tr} {land : Dt} {code : Str} {day : Int} {tr : Option Nat} (hr : row.ok) (ht : ∀ t ∈ ts, t.ok) (h : TreS ts land code day tr) : 0 ≤ effS row ts tr ∧ effS row ts tr ≤ 100 := by
  cases tr with
  | none => exact hr.2.2.1
  | some q =>
    have := (ht _ (trAt_mem h.1)).2.2
    unfold effS
    dsimp only
    split
    · exact this
    · exact hr.2.2.1
theorem ok_row_for (bi : BI mg) (F : Fun K "row_for" "row_for" s_row_for f fd) : FnOk P wd K mg base CX0 1 f fd ["rates", "code", "day"] (spOf UU K cRowFor) := by
  refine ok_def F sc_row_for (fun cdv A outer s H E hr => (dss_cons (ds_setO (i := 3) sc_row_for.nd rfl (.inl rfl) (df_lst da_nil)) (dss_cons (ds_for PassesOwn.never rfl (di_enumT (by rfl) bi.enumerate (de_var 0)) (dg_tup (n := 2) rfl (dgs_cons (dg_name (i := 4) sc_row_for.nd rfl (.inl rfl)) (dgs_cons (dg_name (i := 5) sc_row_for.nd rfl (.inl rfl)) dgs_nil))) (dss_one (ds_if (dw_and (dt_val (de_startswith (de_var 1).bo (de_ix (de_var 5).bo de_int.bo).bo).bo) (dw_and1 (dt_cmp op_le bin_le (de_ix (de_var 5).bo de_int.bo).bo (de_var 2).bo (nomark _)))).dt (dss_one (ds_append 3 rfl (.inl rfl) (de_tup (da_cons (de_len (by rfl) bi.len (de_ix (de_var 5).bo de_int.bo).bo) (da_cons (de_ix (de_var 5).bo de_int.bo) (da_cons (de_var 4) da_nil)))))) dss_nil))) (dss_one (ds_ret (de_ifExp (dt_cmp (op_neX hr.units) bin_ne (db_own 3) (df_lst da_nil).bo (nomark _)) (de_ix (de_maxL rfl hr.units (by rfl) bi.max (db_own 3)).bo de_int.bo) de_non)))))) (fun ds w Q h => ?_) (fun ds w Q h => ?_)
  · obtain ⟨a, b, c, rfl, _⟩ := h; rfl
  · obtain ⟨rs, code, day, rfl, hl, hok, h⟩ := h
    walk_at "my go"
    refine goF_idx (fun k ρ w' => ∃ s4 s5, ρ = [some (.d (.tup (rs.map Rt.d))), some (.d (.str code)), some (.d (.int day)), some (.own ((entsR code day 0 (rs.take k)).map fun g => gD g)), s4, s5] ∧ w' = w) _ 0 _ _ _ List.drop_zero ?_ ⟨none, none, rfl, rfl⟩ ?_
    · rintro k hk _ w ⟨s4, s5, rfl, rfl⟩ R hR
      have hk0 := hk
      rw [enumD_length, List.length_map] at hk
      rw [enumD_at hk0 (by rw [List.length_map]; exact hk), List.getElem_map]
      have fin : ∀ x, (if appR code day rs[k] = true then [keyR rs[k] k] else []) = x → ∀ s4 s5, R [some (.d (.tup (rs.map Rt.d))), some (.d (.str code)), some (.d (.int day)), some (.own ((entsR code day 0 (rs.take k)).map (fun g => gD g) ++ x.map fun g => gD g)), s4, s5] w := fun x e s4 s5 => hR _ _ ⟨s4, s5, by rw [List.take_add_one, List.getElem?_eq_getElem hk, ← List.map_append]; show _ = [_, _, _, some (Slot.own ((entsR code day 0 (rs.take k ++ [rs[k]])).map _)), _, _]; rw [entsR_snoc, Nat.zero_add, List.length_take, Nat.min_eq_left (Nat.le_of_lt hk), e], rfl⟩
      unfold Rt.d
      walk_at "my go"
      have hh := code_len (hok _ (List.getElem_mem hk)).1
      have el := entsR_len (code := code) (day := day) 0 (rs.take k)
      rw [List.length_take] at el
      refine ⟨rfl, ?_⟩
      have no : appR code day rs[k] = false → R [some (.d (.tup (rs.map Rt.d))), some (.d (.str code)), some (.d (.int day)), some (.own ((entsR code day 0 (rs.take k)).map fun g => gD g)), some (.d (.int k)), some (.d rs[k].d)] w := fun c => by
        have := fin [] (by rw [if_neg (by rw [c]; exact Bool.false_ne_true)]) (some (.d (.int k))) (some (.d rs[k].d))
        rw [List.map_nil, List.append_nil] at this
        exact this
      by_cases c1 : Txt.startswith code rs[k].head = true
      · rw [if_pos c1]
        by_cases c2 : rs[k].day ≤ day
        · rw [if_pos (decide_eq_true c2)]
          exact ⟨sl1000 (by omega), szlt (by rw [List.length_map]; omega), fin [keyR rs[k] k] (if_pos (by unfold appR; rw [c1, decide_eq_true c2]; rfl)) _ _⟩
        · rw [if_neg (by rw [decide_eq_false c2]; exact Bool.false_ne_true)]
          exact no (by unfold appR; rw [decide_eq_false c2, Bool.and_false])
      · rw [if_neg c1]
        exact no (by unfold appR; rw [Bool.eq_false_iff.mpr c1, Bool.false_and])
    · rintro _ _ ⟨s4, s5, rfl, rfl⟩
      rw [enumD_length, List.length_map, Nat.max_eq_right (Nat.zero_le _), List.take_of_length_le (Nat.le_refl _)]
      walk_at "my go"
      rw [ev_neN (npL_iff.mpr fun y hy => by obtain ⟨g, _, rfl⟩ := List.mem_map.mp hy; exact np_ints g)]
      cases e : entsR code day 0 rs with
      | nil =>
        refine h none fun r hr => ?_
        cases c : appR code day r with
        | false => rfl
        | true =>
          obtain ⟨q, hq, eq⟩ := List.mem_iff_getElem.mp hr
          have : keyR r (0 + q) ∈ entsR code day 0 rs := (entsR_mem 0 rs _).mpr ⟨q, hq, by unfold rtAt; rw [List.getElem?_eq_getElem hq, eq]; exact c, by unfold rtAt; rw [List.getElem?_eq_getElem hq, eq]; rfl⟩
          rw [e] at this; cases this
      | cons x xs =>
        obtain ⟨p, e1, e2⟩ := row_res e
        walk_at "my go"
        refine ⟨ordAll_goods (x :: xs), ?_⟩
        rw [maxI_D, e1]
        show gIx (.tup [.int _, .int _, .int (p : Int)]) (.int 2) _
        walk_at "my go"
        exact h (some p) e2
/-! ### the law of dues, plain -/
theorem rowS_uniq {rs : List Rt} {code : Str} {day : Int} {p q : Nat} (hp : RowS rs code day (some p)) (hq : RowS rs code day (some q)) : p = q := by
  have h := ltI_tri _ _ (hp.2.2 q hq.1 hq.2.1) (hq.2.2 p hp.1 hp.2.1)
  unfold keyR at h
  simp only [List.cons.injEq, and_true] at h
  omega
theorem treS_uniq {ts : List Tr} {land : Dt} {code : Str} {day : Int} {a b : Option Nat} (ha : TreS ts land code day a) (hb : TreS ts land code day b) : a = b := by
  cases a with
  | none =>
    cases b with
    | none => rfl
    | some q => have := ha _ (trAt_mem hb.1); rw [hb.2.1] at this; cases this
  | some p =>
    cases b with
    | none => have := hb _ (trAt_mem ha.1); rw [ha.2.1] at this; cases this
    | some q =>
      have h := ltI_tri _ _ (ha.2.2 q hb.1 hb.2.1) (hb.2.2 p ha.1 ha.2.1)
      unfold keyT at h
      simp only [List.cons.injEq, and_true] at h
      congr 1
      omega
theorem dueQ_add (sh pc a b c d : Int) : dueQ sh pc a c + dueQ sh pc b d = dueQ sh pc (a + b) (c + d) := by
  unfold dueQ
  have e1 : mkRat (sh * (c + d)) 100 = mkRat (sh * c) 100 + mkRat (sh * d) 100 := by
    rw [Rat.mkRat_add_mkRat _ _ (by decide) (by decide), Rat.mkRat_eq_iff (by decide) (by decide), Int.mul_add, Int.add_mul]
    omega
  rw [e1, Int.mul_add, Rat.intCast_add]
  generalize mkRat (sh * c) 100 = x
  generalize mkRat (sh * d) 100 = y
  generalize ((pc * a : Int) : Rat) = z
  generalize ((pc * b : Int) : Rat) = u
  grind
theorem dueQ_mono {s1 s2 pc a c : Int} (h : s1 ≤ s2) (hc : 0 ≤ c) : dueQ s1 pc a c ≤ dueQ s2 pc a c := by
  unfold dueQ
  have e : mkRat (s1 * c) 100 ≤ mkRat (s2 * c) 100 := by
    have h2 : s1 * c ≤ s2 * c := Int.mul_le_mul_of_nonneg_right h hc
    have h3 : ((s1 * c : Int) : Rat) ≤ ((s2 * c : Int) : Rat) := Rat.intCast_le_intCast.mpr h2
    rw [Rat.mkRat_eq_div, Rat.mkRat_eq_div]
    generalize ((s1 * c : Int) : Rat) = x at *
    generalize ((s2 * c : Int) : Rat) = y at *
    grind
  grind
theorem keyT_le {t u : Tr} {p q : Nat} (h : ltI (keyT u q) (keyT t p) = false) : t.share ≤ u.share := by
  unfold keyT at h
  apply Classical.byContradiction
  intro c
  have : ltI [u.share, (q : Int)] [t.share, (p : Int)] = true := by
    show (if _ then _ else decide _) = true
    rw [if_neg (by omega)]; exact decide_eq_true (by omega)
  rw [this] at h; cases h
theorem trAt_app {ts us : List Tr} {q : Nat} (h : q < ts.length) : trAt (ts ++ us) q = trAt ts q := by
  unfold trAt
  rw [List.getElem?_append_left h]
theorem more_less {row : Rt} {ts us : List Tr} {land : Dt} {code : Str} {day : Int} {a b : Option Nat} (ha : TreS ts land code day a) (hb : TreS (ts ++ us) land code day b) : effS row (ts ++ us) b ≤ effS row ts a := by
  cases a with
  | none =>
    cases b with
    | none => exact Int.le_refl _
    | some q => unfold effS; dsimp only; split <;> omega
  | some p =>
    cases b with
    | none => have := hb _ (List.mem_append_left _ (trAt_mem ha.1)); rw [ha.2.1] at this; cases this
    | some q =>
      have h := keyT_le (hb.2.2 p (by rw [List.length_append]; have := ha.1; omega) (by rw [trAt_app ha.1]; exact ha.2.1))
      rw [trAt_app ha.1] at h
      unfold effS; dsimp only
      split <;> split <;> omega
theorem tre_nil {land : Dt} {code : Str} {day : Int} {a : Option Nat} (h : TreS [] land code day a) : a = none := by
  cases a with
  | none => rfl
  | some p => exact absurd h.1 (Nat.not_lt_zero _)
theorem tre_non {ts : List Tr} {code : Str} {day : Int} {a : Option Nat} (h : TreS ts .non code day a) : a = none := by
  cases a with
  | none => rfl
  | some p => have := h.2.1; unfold appT at this; rw [show eqd (.str (trAt ts p).land) .non = false from rfl] at this; cases this
/-- the codes that a head is ahead of -/
def headR (code : Str) (r : Rt) : Bool := Txt.startswith code r.head
theorem keyR_le {a b : Rt} {p q : Nat} (h : ltI (keyR a p) (keyR b q) = false) : (b.head.length : Int) < a.head.length ∨ b.head.length = a.head.length ∧ b.day ≤ a.day := by
  unfold keyR at h
  apply Classical.byContradiction
  intro c
  have : ltI [(a.head.length : Int), a.day, (p : Int)] [(b.head.length : Int), b.day, (q : Int)] = true := by
    show (if _ then (if _ then _ else decide _) else decide _) = true
    by_cases e : (a.head.length : Int) = b.head.length
    · rw [if_pos e, if_neg (by omega)]; exact decide_eq_true (by omega)
    · rw [if_neg e]; exact decide_eq_true (by omega)
  rw [this] at h; cases h
theorem starts_cut (x y : Str) : Txt.startswith x y = decide (cutS x none (some (y.length : Int)) = y) := by
  have ht : (cutS x none (some (y.length : Int))).cps.toList = x.cps.toList.take y.cps.toList.length := by
    rw [cutS_toList]
    show ((x.cps.toList.drop 0).take (HT.sIx x.length x.length (some (y.length : Int)) - 0)) = _
    rw [List.drop_zero, Nat.sub_zero]
    have e : HT.sIx x.length x.length (some ((y.length : Nat) : Int)) = min y.length x.length := HT.sIx_nat _ _ _
    rw [e]
    show x.cps.toList.take (min y.cps.toList.length x.cps.toList.length) = _
    rw [← List.take_take, List.take_of_length_le (l := x.cps.toList) (Nat.le_refl _)]
  have hs : ∀ a b : Str, a = b ↔ a.cps.toList = b.cps.toList := fun a b => ⟨fun h => by rw [h], fun h => by cases a; cases b; congr 1; exact Array.toList_inj.mp h⟩
  have hc : (cutS x none (some (y.length : Int)) = y) ↔ x.cps.toList.take y.cps.toList.length = y.cps.toList := by rw [hs, ht]
  have he : (x.cps.extract 0 (0 + y.length) == y.cps) = decide (x.cps.toList.take y.cps.toList.length = y.cps.toList) := by
    rw [Bool.eq_iff_iff, beq_iff_eq, decide_eq_true_iff, ← Array.toList_inj, Array.toList_extract, Nat.zero_add]
    simp [List.extract_eq_take_drop]
    rfl
  show (decide (0 + y.length ≤ x.length) && (x.cps.extract 0 (0 + y.length) == y.cps)) = _
  rw [he]
  by_cases h : x.cps.toList.take y.cps.toList.length = y.cps.toList
  · rw [decide_eq_true h, decide_eq_true (hc.mpr h), Bool.and_true]
    have := congrArg List.length h
    rw [List.length_take] at this
    refine decide_eq_true ?_
    show 0 + y.cps.toList.length ≤ x.cps.toList.length
    omega
  · rw [decide_eq_false h, decide_eq_false (fun z => h (hc.mp z)), Bool.and_false]

theorem starts_same {x y z : Str} (h1 : Txt.startswith x y = true) (h2 : Txt.startswith x z = true) (hl : (y.length : Int) = z.length) : y = z := by
  rw [starts_cut] at h1 h2
  rw [← of_decide_eq_true h1, ← of_decide_eq_true h2, hl]
def spotsApart (rs : List Rt) : Prop := rs.Pairwise fun a b => a.spot ≠ b.spot
theorem apart_eq : ∀ {rs : List Rt}, spotsApart rs → ∀ a ∈ rs, ∀ b ∈ rs, a.spot = b.spot → a = b
  | [], _, a, ha, _, _, _ => by cases ha
  | r :: rs, h, a, ha, b, hb, e => by
    obtain ⟨h1, h2⟩ := List.pairwise_cons.mp h
    rcases List.mem_cons.mp ha with ea | ha'
    · rcases List.mem_cons.mp hb with eb | hb'
      · exact ea.trans eb.symm
      · exact absurd (by rw [← ea]; exact e) (h1 b hb')
    · rcases List.mem_cons.mp hb with eb | hb'
      · exact absurd (by rw [← eb]; exact e.symm) (h1 a ha')
      · exact apart_eq h2 a ha' b hb' e
theorem app_head {code : Str} {day : Int} {r : Rt} (h : appR code day r = true) : headR code r = true ∧ r.day ≤ day :=
  ⟨(Bool.and_eq_true_iff.mp h).1, of_decide_eq_true (Bool.and_eq_true_iff.mp h).2⟩
theorem app_of {code : Str} {day : Int} {r : Rt} (h : headR code r = true) (hd : r.day ≤ day) : appR code day r = true := Bool.and_eq_true_iff.mpr ⟨h, decide_eq_true hd⟩
theorem rtAt_of {rs : List Rt} {r : Rt} (h : r ∈ rs) : ∃ q, q < rs.length ∧ rtAt rs q = r := by
  obtain ⟨q, hq, e⟩ := List.mem_iff_getElem.mp h
  exact ⟨q, hq, by unfold rtAt; rw [List.getElem?_eq_getElem hq, e]; rfl⟩
theorem rowS_filter {rs : List Rt} {code : Str} {day : Int} {p q : Nat} (ha : spotsApart rs) (hp : RowS rs code day (some p)) (hq : RowS (rs.filter (headR code)) code day (some q)) : rtAt (rs.filter (headR code)) q = rtAt rs p := by
  have mq := List.mem_filter.mp (rtAt_mem hq.1)
  have mp := rtAt_mem hp.1
  obtain ⟨h1, d1⟩ := app_head hp.2.1
  obtain ⟨h2, d2⟩ := app_head hq.2.1
  obtain ⟨u, hu, eu⟩ := rtAt_of mq.1
  obtain ⟨v, hv, ev⟩ := rtAt_of (List.mem_filter.mpr ⟨mp, h1⟩)
  have k1 := keyR_le (hp.2.2 u hu (by rw [eu]; exact hq.2.1))
  have k2 := keyR_le (hq.2.2 v hv (by rw [ev]; exact hp.2.1))
  rw [eu] at k1
  rw [ev] at k2
  have hl : ((rtAt (rs.filter (headR code)) q).head.length : Int) = (rtAt rs p).head.length := by omega
  have hd : (rtAt (rs.filter (headR code)) q).day = (rtAt rs p).day := by omega
  exact apart_eq ha _ mq.1 _ mp (spot_eq.mpr ⟨starts_same h2 h1 hl, hd⟩)
theorem rowS_days {rs : List Rt} {code : Str} {day other : Int} {p : Nat} (hp : RowS rs code day (some p)) (h1 : (rtAt rs p).day ≤ other) (h2 : other ≤ day) : RowS rs code other (some p) := by
  obtain ⟨h, _⟩ := app_head hp.2.1
  refine ⟨hp.1, app_of h h1, fun q hq ha => hp.2.2 q hq ?_⟩
  obtain ⟨h3, h4⟩ := app_head ha
  exact app_of h3 (by omega)
theorem rowS_some {rs : List Rt} {code : Str} {day : Int} {p : Nat} {res : Option Nat} (hp : RowS rs code day (some p)) (h : RowS rs code day res) : res = some p := by
  cases res with
  | none => have := h _ (rtAt_mem hp.1); rw [hp.2.1] at this; cases this
  | some q => rw [rowS_uniq h hp]
theorem srt_rows (l : List Rt) : srtOk (l.map Rt.d) := by
  refine ⟨npL_iff.mpr fun y hy => ?_, fun a ha b hb => ?_, .inl (List.all_eq_true.mpr fun y hy => ?_), ?_⟩
  · obtain ⟨r, _, rfl⟩ := List.mem_map.mp hy; rfl
  · obtain ⟨r, _, rfl⟩ := List.mem_map.mp ha
    obtain ⟨q, _, rfl⟩ := List.mem_map.mp hb; rfl
  · obtain ⟨r, _, rfl⟩ := List.mem_map.mp hy; rfl
  · have : Dt.depL (l.map Rt.d) ≤ 1 := depL_le.mpr fun y hy => by obtain ⟨r, _, rfl⟩ := List.mem_map.mp hy; exact Nat.le_refl 1
    omega
theorem sort_rows (l : List Rt) : ∃ m : List Rt, sortD (l.map Rt.d) = m.map Rt.d ∧ m.Perm l :=
  ⟨l.mergeSort fun x y => leD x.d y.d, (by unfold sortD; exact (List.map_mergeSort (f := Rt.d) fun _ _ _ _ => rfl).symm), List.mergeSort_perm ..⟩
def baseR : Rt := ⟨"1", 0, 50, 2⟩
def noBase (r : Rt) : Bool := !(r.head == "1" && r.day == 0)
def noBaseD : Dt → Bool
  | .tup xs => !(eqd (.tup (cutD xs none (some 2))) (.tup [.str "1", .int 0]))
  | _ => false
theorem noBase_D (r : Rt) : noBaseD r.d = noBase r := by
  show (!((r.head == "1") && ((r.day == 0) && true))) = _
  rw [Bool.and_true]; rfl
theorem noBase_f (rs : List Rt) : (rs.map Rt.d).filter noBaseD = (rs.filter noBase).map Rt.d := by
  rw [List.filter_map]
  congr 1
  exact List.filter_congr fun r _ => noBase_D r
theorem apart_of {rs : List Rt} (h : rs.Pairwise fun a b => ltR a b = true) : spotsApart rs := h.imp fun {a b} hl e => by
  obtain ⟨e1, e2⟩ := spot_eq.mp e
  unfold ltR at hl
  rw [if_pos e1, e2] at hl
  exact absurd (of_decide_eq_true hl) (Int.lt_irrefl _)
theorem base_rows {rs m : List Rt} (h : RatesOk rs) (hp : m.Perm (rs.filter noBase ++ [baseR])) : (∀ r ∈ m, r.ok) ∧ spotsApart m ∧ baseR ∈ m ∧ m.length ≤ rs.length + 1 := by
  refine ⟨fun r hr => ?_, ?_, hp.mem_iff.mpr (by simp), ?_⟩
  · rcases List.mem_append.mp (hp.mem_iff.mp hr) with h1 | h1
    · exact h.1 r (List.mem_filter.mp h1).1
    · cases List.mem_singleton.mp h1
      exact ⟨by decide +kernel, by decide, by decide, by decide⟩
  · refine (hp.pairwise_iff fun {a b} h => fun e => h e.symm).mpr ?_
    refine List.pairwise_append.mpr ⟨(apart_of h.2).filter _, List.pairwise_singleton .., fun a ha b hb e => ?_⟩
    cases List.mem_singleton.mp hb
    obtain ⟨e1, e2⟩ := spot_eq.mp e
    have := (List.mem_filter.mp ha).2
    unfold noBase at this
    rw [e1, e2] at this
    exact absurd this (by decide +kernel)
  · rw [hp.length_eq, List.length_append]
    have := List.length_filter_le noBase rs
    show _ + 1 ≤ _
    omega
theorem row_ex {rs : List Rt} {code : Str} {day : Int} (h : ∃ r ∈ rs, appR code day r = true) : ∃ p, RowS rs code day (some p) := by
  obtain ⟨r, hr, e⟩ := h
  obtain ⟨q, hq, rfl⟩ := rtAt_of hr
  have m := (entsR_mem 0 rs _).mpr ⟨q, hq, e, rfl⟩
  cases c : entsR code day 0 rs with
  | nil => rw [c] at m; cases m
  | cons x xs => obtain ⟨p, _, h⟩ := row_res c; exact ⟨p, h⟩
theorem tre_ex (ts : List Tr) (land : Dt) (code : Str) (day : Int) : ∃ a, TreS ts land code day a := by
  cases c : entsT land code day 0 ts with
  | nil =>
    refine ⟨none, fun t ht => ?_⟩
    obtain ⟨q, hq, eq⟩ := List.mem_iff_getElem.mp ht
    cases d : appT land code day t with
    | false => rfl
    | true =>
      have : keyT t (0 + q) ∈ entsT land code day 0 ts := (entsT_mem 0 ts _).mpr ⟨q, hq, by unfold trAt; rw [List.getElem?_eq_getElem hq, eq]; exact d, by unfold trAt; rw [List.getElem?_eq_getElem hq, eq]; rfl⟩
      rw [c] at this; cases this
  | cons x xs => obtain ⟨p, _, h⟩ := tre_res c; exact ⟨some p, h⟩
theorem dueQ_mk (sh pc a c : Int) : dueQ sh pc a c = mkRat (sh * c + pc * a * 100) 100 := by
  unfold dueQ
  rw [Rat.mkRat_eq_div, Rat.mkRat_eq_div, Rat.intCast_add, Rat.intCast_mul (pc * a) 100]
  generalize ((sh * c : Int) : Rat) = x
  generalize ((pc * a : Int) : Rat) = y
  grind
theorem dueQ_small {sh pc a c : Int} (h1 : 0 ≤ sh ∧ sh ≤ 100) (h2 : 0 ≤ pc ∧ pc ≤ 1000) (h3 : 0 ≤ a ∧ a ≤ 10000000) (h4 : 0 ≤ c ∧ c ≤ 10000000) : 0 ≤ (dueQ sh pc a c).num ∧ (dueQ sh pc a c).num < 2 ^ 60 ∧ (dueQ sh pc a c).den < 2 ^ 60 := by
  obtain ⟨s, rfl⟩ := Int.eq_ofNat_of_zero_le h1.1
  obtain ⟨p, rfl⟩ := Int.eq_ofNat_of_zero_le h2.1
  obtain ⟨a, rfl⟩ := Int.eq_ofNat_of_zero_le h3.1
  obtain ⟨c, rfl⟩ := Int.eq_ofNat_of_zero_le h4.1
  have m1 : s * c ≤ 100 * 10000000 := Nat.mul_le_mul (by omega) (by omega)
  have m2 : p * a ≤ 1000 * 10000000 := Nat.mul_le_mul (by omega) (by omega)
  rw [dueQ_mk]
  obtain ⟨f1, f2, f3⟩ := frac_small (t := s * c + p * a * 100) (b := 100) (by decide)
  have e : ((s : Int) * (c : Int) + (p : Int) * (a : Int) * 100) = ((s * c + p * a * 100 : Nat) : Int) := by
    rw [Int.natCast_add, Int.natCast_mul, Int.natCast_mul, Int.natCast_mul]; rfl
  rw [e]
  have b1 : (2 : Int) ^ 60 = 1152921504606846976 := by decide
  have b2 : (2 : Nat) ^ 60 = 1152921504606846976 := by decide
  rw [b1, b2]
  refine ⟨f1, ?_, by omega⟩
  have : (((s * c + p * a * 100 : Nat)) : Int) ≤ 2000000000000 := by omega
  omega
abbrev cDueK : List Dt → List Dt → UU.W → (Dt → UU.W → Prop) → Prop := fun as bs w Q => as.length = 5 ∧ bs.length = 2 ∧ cDue (as ++ bs) w Q
theorem due_at {rs : List Rt} {ts : List Tr} {code : Str} {land : Dt} {day pieces value : Int} {p : Nat} {tr : Option Nat} {w : UU.W} {Y : Dt → UU.W → Prop} (hl : rs.length ≤ 1000) (hl2 : ts.length ≤ 1000) (ho : ∀ r ∈ rs, r.ok) (hto : ∀ t ∈ ts, t.ok) (hland : landOk land) (hp : 0 ≤ pieces ∧ pieces ≤ 10000000) (hv : 0 ≤ value ∧ value ≤ 10000000)
    (hr : RowS rs code day (some p)) (ht : TreS ts land code day tr) (h : Y (dueD rs ts p tr pieces value) w) : cDueK [.tup (rs.map Rt.d), .tup (ts.map Tr.d), .str code, land, .int day] [.int pieces, .int value] w Y :=
  ⟨rfl, rfl, rs, ts, code, land, day, pieces, value, rfl, hl, hl2, ho, hto, hland, hp, hv, ⟨_, rtAt_mem hr.1, hr.2.1⟩, fun q t hq hb => by rw [rowS_uniq hq hr, treS_uniq hb ht]; exact h⟩
theorem one_cut (x : Str) : Txt.startswith ("1" ++ x) "1" = true := by
  rw [starts_cut]
  refine decide_eq_true ?_
  have e : (cutS ("1" ++ x) none (some (((("1" : Str).length : Nat)) : Int))).cps.toList = ("1" : Str).cps.toList := by
    rw [cut_lo (by rw [len_catS]; omega)]
    show (("1" : Str).cps ++ x.cps).toList.take _ = _
    rw [Array.toList_append]
    exact List.take_left' rfl
  generalize cutS ("1" ++ x) none (some (((("1" : Str).length : Nat)) : Int)) = z at e ⊢
  cases z
  generalize ("1" : Str) = y at e
  cases y
  congr 1
  exact Array.toList_inj.mp e
theorem cut_len (x : Str) (l u : Option Int) : (cutS x l u).length ≤ x.length := by
  show (cutS x l u).cps.toList.length ≤ x.cps.toList.length
  rw [cutS_toList, List.length_take, List.length_drop]
  omega
theorem effT_wf (row : Rt) (ts : List Tr) (tr : Option Nat) : (effT row ts tr).np = true ∧ (effT row ts tr).dep = 0 := by
  unfold effT
  split
  · split <;> exact ⟨rfl, rfl⟩
  · exact ⟨rfl, rfl⟩
theorem frac_le {p q : Rat} (h : p ≤ q) : ¬ (q.num * (p.den : Int) < p.num * (q.den : Int)) := by
  have := (Rat.le_iff p q).mp h
  omega
theorem frac_dep (q : Rat) : (fracQ q).dep ≤ 64 := Nat.le_trans (m := 1) (dep_tup.mpr fun y hy => by
  simp only [List.mem_cons, List.not_mem_nil, or_false] at hy
  rcases hy with rfl | rfl <;> exact Nat.zero_le _) (by decide)
theorem g_fr0 {q : Rat} {Q : Dt → Prop} : gIx (fracQ q) (.int 0) Q = Q (.int q.num) := propext ⟨fun h => by
  obtain ⟨v, e, h⟩ := h; cases e; exact h, fun h => ⟨_, rfl, h⟩⟩
theorem g_fr1 {q : Rat} {Q : Dt → Prop} : gIx (fracQ q) (.int 1) Q = Q (.int (q.den : Int)) := propext ⟨fun h => by
  obtain ⟨v, e, h⟩ := h; cases e; exact h, fun h => ⟨_, rfl, h⟩⟩
theorem small_mul {i : Int} {j : Nat} (h0 : 0 ≤ i) (h1 : i < 2 ^ 60) (h2 : j < 2 ^ 60) : CMulW i (j : Int) := by
  have b1 : (2 : Int) ^ 60 = 1152921504606846976 := by decide
  have b2 : (2 : Nat) ^ 60 = 1152921504606846976 := by decide
  have b3 : (1152921504606846976 : Nat) < 2 ^ 200 := by decide
  rw [b1] at h1
  rw [b2] at h2
  exact lo_mul (by omega) (by omega)
theorem dueD_wf (rs : List Rt) (ts : List Tr) (p : Nat) (tr : Option Nat) (a b : Int) : (dueD rs ts p tr a b).np = true ∧ (dueD rs ts p tr a b).dep ≤ 64 := by
  obtain ⟨en, ed⟩ := effT_wf (rtAt rs p) ts tr
  refine ⟨?_, Nat.le_trans (m := 2) (dep_tup.mpr fun y hy => ?_) (by decide)⟩
  · show (true && (true && ((effT (rtAt rs p) ts tr).np && true))) = true
    rw [en]; rfl
  · simp only [List.mem_cons, List.not_mem_nil, or_false] at hy
    rcases hy with rfl | rfl | rfl
    · exact dep_tup.mpr fun y hy => by
        simp only [List.mem_cons, List.not_mem_nil, or_false] at hy
        rcases hy with rfl | rfl <;> exact Nat.zero_le _
    · exact Nat.zero_le _
    · rw [ed]; exact Nat.zero_le _
def headD (code : Str) : Dt → Bool
  | .tup (.str h :: _) => Txt.startswith code h
  | _ => false
theorem head_f (code : Str) (rs : List Rt) : (rs.map Rt.d).filter (headD code) = (rs.filter (headR code)).map Rt.d := by
  rw [List.filter_map]; rfl
def midD (a b : Int) : Dt → Bool
  | .tup (_ :: .int j :: _) => decide (a < j) && decide (j ≤ b)
  | _ => false
theorem min2_cs (a b : Int) : min2 a b ≤ a ∧ min2 a b ≤ b ∧ (min2 a b = a ∨ min2 a b = b) := by
  unfold min2
  split <;> omega
/-! ### the law's own way to a due -/
def betterR (a b : Rt) : Bool := if a.head.length = b.head.length then decide (b.day < a.day) else decide (b.head.length < a.head.length)
def BestS (rs : List Rt) (code : Str) (day : Int) (k : Nat) : Option Nat → Prop
  | none => ∀ q, q < k → appR code day (rtAt rs q) = false
  | some p => p < k ∧ appR code day (rtAt rs p) = true ∧ ∀ q, q < k → appR code day (rtAt rs q) = true → betterR (rtAt rs q) (rtAt rs p) = false
def bestD (rs : List Rt) : Option Nat → Dt
  | none => .non
  | some p => (rtAt rs p).d
theorem better_irr (a : Rt) : betterR a a = false := by
  unfold betterR
  rw [if_pos rfl]; exact decide_eq_false (Int.lt_irrefl _)
theorem better_neg {a b c : Rt} (h1 : betterR a b = false) (h2 : betterR b c = false) : betterR a c = false := by
  unfold betterR at *
  split at h1 <;> split at h2 <;> split <;> simp only [decide_eq_false_iff_not] at * <;> omega
theorem better_asym {a b : Rt} (h : betterR a b = true) : betterR b a = false := by
  unfold betterR at *
  split at h <;> split <;> simp only [decide_eq_false_iff_not, decide_eq_true_eq] at * <;> omega
theorem best_skip {rs : List Rt} {code : Str} {day : Int} {k : Nat} {b : Option Nat} (h : BestS rs code day k b) (hk : appR code day (rtAt rs k) = false) : BestS rs code day (k + 1) b := by
  cases b with
  | none =>
    intro q hq
    rcases Nat.lt_succ_iff_lt_or_eq.mp hq with hq | rfl
    · exact h q hq
    · exact hk
  | some p =>
    obtain ⟨h1, h2, h3⟩ := h
    refine ⟨by omega, h2, fun q hq ha => ?_⟩
    rcases Nat.lt_succ_iff_lt_or_eq.mp hq with hq | rfl
    · exact h3 q hq ha
    · rw [hk] at ha; cases ha
theorem best_first {rs : List Rt} {code : Str} {day : Int} {k : Nat} (h : BestS rs code day k none) (hk : appR code day (rtAt rs k) = true) : BestS rs code day (k + 1) (some k) := by
  refine ⟨by omega, hk, fun q hq ha => ?_⟩
  rcases Nat.lt_succ_iff_lt_or_eq.mp hq with hq | rfl
  · have : appR code day (rtAt rs q) = false := h q hq
    rw [this] at ha; cases ha
  · exact better_irr _
theorem best_more {rs : List Rt} {code : Str} {day : Int} {k p : Nat} (h : BestS rs code day k (some p)) (hk : appR code day (rtAt rs k) = true) : BestS rs code day (k + 1) (some (if betterR (rtAt rs k) (rtAt rs p) = true then k else p)) := by
  obtain ⟨h1, h2, h3⟩ := h
  cases c : betterR (rtAt rs k) (rtAt rs p) with
  | true =>
    rw [if_pos rfl]
    refine ⟨by omega, hk, fun q hq ha => ?_⟩
    rcases Nat.lt_succ_iff_lt_or_eq.mp hq with hq | rfl
    · exact better_neg (h3 q hq ha) (better_asym c)
    · exact better_irr _
  | false =>
    rw [if_neg Bool.false_ne_true]
    refine ⟨by omega, h2, fun q hq ha => ?_⟩
    rcases Nat.lt_succ_iff_lt_or_eq.mp hq with hq | rfl
    · exact h3 q hq ha
    · exact c
theorem rtAt_get {rs : List Rt} {p : Nat} (h : p < rs.length) : rs[p] = rtAt rs p := by
  unfold rtAt
  rw [List.getElem?_eq_getElem h]; rfl
theorem apart_at {rs : List Rt} (ha : spotsApart rs) {p q : Nat} (hp : p < rs.length) (hq : q < rs.length) (e : (rtAt rs p).spot = (rtAt rs q).spot) : p = q := by
  rw [← rtAt_get hp, ← rtAt_get hq] at e
  rcases Nat.lt_trichotomy p q with h | h | h
  · exact absurd e ((List.pairwise_iff_getElem.mp ha) p q hp hq h)
  · exact h
  · exact absurd e.symm ((List.pairwise_iff_getElem.mp ha) q p hq hp h)
theorem ltI_ge {a b : Int} {xs ys : List Int} (h : b ≤ a) (h2 : a = b → ltI xs ys = false) : ltI (a :: xs) (b :: ys) = false := by
  show (if a = b then ltI xs ys else decide (a < b)) = false
  by_cases e : a = b
  · rw [if_pos e]; exact h2 e
  · rw [if_neg e]; exact decide_eq_false (by omega)
theorem ltI_same : ∀ xs : List Int, ltI xs xs = false
  | [] => rfl
  | x :: xs => ltI_ge (Int.le_refl _) fun _ => ltI_same xs
theorem effS_some {row : Rt} {ts : List Tr} {q : Nat} : effS row ts (some q) = if (trAt ts q).share < row.share then (trAt ts q).share else row.share := rfl
theorem effT_some {row : Rt} {ts : List Tr} {q : Nat} : effT row ts (some q) = if (trAt ts q).share < row.share then .int (q : Int) else .non := rfl
theorem effS_none {row : Rt} {ts : List Tr} : effS row ts none = row.share := rfl
theorem effT_none {row : Rt} {ts : List Tr} : effT row ts none = .non := rfl
theorem best_row {rs : List Rt} {code : Str} {day : Int} {b : Option Nat} (ha : spotsApart rs) (h : BestS rs code day rs.length b) : RowS rs code day b := by
  cases b with
  | none =>
    intro r hr
    obtain ⟨q, hq, e⟩ := rtAt_of hr
    rw [← e]; exact h q hq
  | some p =>
    obtain ⟨h1, h2, h3⟩ := h
    refine ⟨h1, h2, fun q hq aq => ?_⟩
    have hb := h3 q hq aq
    have a1 := (app_head h2).1
    have a2 := (app_head aq).1
    by_cases hl : (rtAt rs q).head.length = (rtAt rs p).head.length
    · have hh : (rtAt rs q).head = (rtAt rs p).head := starts_same a2 a1 (by omega)
      unfold betterR at hb
      rw [if_pos hl] at hb
      have hb := of_decide_eq_false hb
      by_cases hd : (rtAt rs q).day = (rtAt rs p).day
      · have : q = p := apart_at ha hq h1 (spot_eq.mpr ⟨hh, hd⟩)
        subst this
        exact ltI_same _
      · exact ltI_ge (by omega) fun _ => ltI_ge (by omega) fun e => absurd e.symm hd
    · unfold betterR at hb
      rw [if_neg hl] at hb
      have hb := of_decide_eq_false hb
      exact ltI_ge (by omega) fun e => absurd e (by omega)
theorem app_cut (code : Str) (day : Int) (r : Rt) : appR code day r = (decide (cutS code none (some (r.head.length : Int)) = r.head) && decide (r.day ≤ day)) := by
  unfold appR
  rw [starts_cut]
/-- the treaty that takes most away, of the first k -/
theorem tre_take {ts : List Tr} {land : Dt} {code : Str} {day : Int} {k : Nat} {tr : Option Nat} (h : TreS (ts.take k) land code day tr) (hk : k < ts.length) (row : Rt) :
    ∃ tr', TreS (ts.take (k + 1)) land code day tr' ∧ (if (appT land code day (trAt ts k) && decide ((trAt ts k).share < effS row (ts.take k) tr)) = true then effS row (ts.take (k + 1)) tr' = (trAt ts k).share ∧ effT row (ts.take (k + 1)) tr' = .int (k : Int) else effS row (ts.take (k + 1)) tr' = effS row (ts.take k) tr ∧ effT row (ts.take (k + 1)) tr' = effT row (ts.take k) tr) := by
  have lk : (ts.take k).length = k := by rw [List.length_take]; omega
  have lk1 : (ts.take (k + 1)).length = k + 1 := by rw [List.length_take]; omega
  have old : ∀ q, q < k → trAt (ts.take k) q = trAt ts q := fun q hq => by unfold trAt; rw [List.getElem?_take_of_lt hq]
  have new : ∀ q, q < k + 1 → trAt (ts.take (k + 1)) q = trAt ts q := fun q hq => by unfold trAt; rw [List.getElem?_take_of_lt hq]
  have memk : ∀ t ∈ ts.take (k + 1), t = trAt ts k ∨ t ∈ ts.take k := fun t ht => by
    rw [List.take_add_one, List.getElem?_eq_getElem hk] at ht
    rcases List.mem_append.mp ht with ht | ht
    · exact .inr ht
    · refine .inl ?_
      unfold trAt
      rw [List.getElem?_eq_getElem hk]
      exact List.mem_singleton.mp ht
  cases ca : appT land code day (trAt ts k) with
  | false =>
    refine ⟨tr, ?_, ?_⟩
    · cases tr with
      | none =>
        intro t ht
        rcases memk t ht with rfl | ht
        · exact ca
        · exact h t ht
      | some p =>
        obtain ⟨h1, h2, h3⟩ := h
        rw [lk] at h1 h3
        rw [old p h1] at h2 h3
        refine ⟨by omega, by rw [new p (by omega)]; exact h2, fun q hq aq => ?_⟩
        rw [lk1] at hq
        rw [new q hq] at aq ⊢
        rw [new p (by omega)]
        rcases Nat.lt_succ_iff_lt_or_eq.mp hq with hq | rfl
        · have := h3 q hq (by rw [old q hq]; exact aq)
          rw [old q hq] at this
          exact this
        · rw [ca] at aq; cases aq
    · rw [Bool.false_and, if_neg Bool.false_ne_true]
      cases tr with
      | none => exact ⟨rfl, rfl⟩
      | some p =>
        obtain ⟨h1, _, _⟩ := h
        rw [lk] at h1
        rw [effS_some, effT_some, effS_some, effT_some, new p (by omega), old p h1]
        exact ⟨rfl, rfl⟩
  | true =>
    cases tr with
    | none =>
      refine ⟨some k, ⟨by omega, by rw [new k (by omega)]; exact ca, fun q hq aq => ?_⟩, ?_⟩
      · rw [lk1] at hq
        rw [new q hq] at aq ⊢
        rw [new k (by omega)]
        rcases Nat.lt_succ_iff_lt_or_eq.mp hq with hq | rfl
        · have z := h (trAt ts q) (by
            rw [← old q hq]
            exact trAt_mem (by omega))
          rw [z] at aq; cases aq
        · exact ltI_same _
      · rw [effS_some, effT_some, effS_none, effT_none, new k (by omega)]
        by_cases c : (trAt ts k).share < row.share
        · rw [show (true && decide ((trAt ts k).share < row.share)) = true from by rw [decide_eq_true c]; rfl, if_pos rfl]
          simp [c]
        · rw [show (true && decide ((trAt ts k).share < row.share)) = false from by rw [decide_eq_false c]; rfl, if_neg Bool.false_ne_true]
          simp [c]
    | some p =>
      obtain ⟨h1, h2, h3⟩ := h
      rw [lk] at h1 h3
      rw [old p h1] at h2 h3
      by_cases cs : (trAt ts k).share < (trAt ts p).share
      · refine ⟨some k, ⟨by omega, by rw [new k (by omega)]; exact ca, fun q hq aq => ?_⟩, ?_⟩
        · rw [lk1] at hq
          rw [new q hq] at aq ⊢
          rw [new k (by omega)]
          rcases Nat.lt_succ_iff_lt_or_eq.mp hq with hq | rfl
          · have := h3 q hq (by rw [old q hq]; exact aq)
            rw [old q hq] at this
            have := keyT_le this
            exact ltI_ge (by omega) fun e => absurd e (by omega)
          · exact ltI_same _
        · rw [effS_some, effT_some, effS_some, effT_some, new k (by omega), old p h1]
          by_cases c : (trAt ts k).share < row.share
          · have : decide ((trAt ts k).share < if (trAt ts p).share < row.share then (trAt ts p).share else row.share) = true := decide_eq_true (by split <;> omega)
            rw [this]
            simp [c]
          · have : decide ((trAt ts k).share < if (trAt ts p).share < row.share then (trAt ts p).share else row.share) = false := decide_eq_false (by split <;> omega)
            rw [this]
            have c2 : ¬ (trAt ts p).share < row.share := by omega
            simp [c, c2]
      · refine ⟨some p, ⟨by omega, by rw [new p (by omega)]; exact h2, fun q hq aq => ?_⟩, ?_⟩
        · rw [lk1] at hq
          rw [new q hq] at aq ⊢
          rw [new p (by omega)]
          rcases Nat.lt_succ_iff_lt_or_eq.mp hq with hq | rfl
          · have := h3 q hq (by rw [old q hq]; exact aq)
            rw [old q hq] at this
            exact this
          · exact ltI_ge (by omega) fun e => ltI_ge (by omega) fun e2 => absurd e2 (by omega)
        · rw [effS_some, effT_some, effS_some, effT_some, new p (by omega), old p h1]
          by_cases c : (trAt ts p).share < row.share
          · have : decide ((trAt ts k).share < if (trAt ts p).share < row.share then (trAt ts p).share else row.share) = false := decide_eq_false (by rw [if_pos c]; omega)
            rw [this, Bool.and_false, if_neg Bool.false_ne_true]
            exact ⟨rfl, rfl⟩
          · have : decide ((trAt ts k).share < if (trAt ts p).share < row.share then (trAt ts p).share else row.share) = false := decide_eq_false (by rw [if_neg c]; omega)
            rw [this, Bool.and_false, if_neg Bool.false_ne_true]
            exact ⟨rfl, rfl⟩
theorem appT_cut (land : Dt) (code : Str) (day : Int) (t : Tr) : appT land code day t = (eqd (.str t.land) land && (decide (cutS code none (some (t.head.length : Int)) = t.head) && (decide (t.first ≤ day) && decide (day ≤ t.last)))) := by
  unfold appT
  rw [starts_cut]
/-! ### the row that is told, plain -/
def RowR (rs : List Rt) (code : Str) (day : Int) : Option Rt → Prop
  | none => ∀ r ∈ rs, appR code day r = false
  | some b => b ∈ rs ∧ appR code day b = true ∧ ∀ q ∈ rs, appR code day q = true → betterR q b = false
theorem rowR_of {rs : List Rt} {code : Str} {day : Int} {o : Option Nat} (h : RowS rs code day o) : RowR rs code day (o.map (rtAt rs)) := by
  cases o with
  | none => exact h
  | some p =>
    obtain ⟨h1, h2, h3⟩ := h
    refine ⟨rtAt_mem h1, h2, fun r hr ha => ?_⟩
    obtain ⟨q, hq, e⟩ := List.getElem_of_mem hr
    have e2 : rtAt rs q = r := by rw [← e]; exact (rtAt_get hq).symm
    have := h3 q hq (by rw [e2]; exact ha)
    rw [e2] at this
    unfold betterR
    unfold keyR at this
    cases c : (if r.head.length = (rtAt rs p).head.length then decide ((rtAt rs p).day < r.day) else decide ((rtAt rs p).head.length < r.head.length)) with
    | false => rfl
    | true =>
      exfalso
      have : ltI [((rtAt rs p).head.length : Int), (rtAt rs p).day, (p : Int)] [(r.head.length : Int), r.day, (q : Int)] = true := by
        split at c
        · rename_i e3
          have c := of_decide_eq_true c
          show (if _ then (if _ then _ else decide _) else decide _) = true
          rw [if_pos (by omega), if_neg (by omega)]
          exact decide_eq_true c
        · rename_i e3
          have c := of_decide_eq_true c
          show (if _ then _ else decide _) = true
          rw [if_neg (by omega)]
          exact decide_eq_true (by omega)
      rename_i t
      rw [t] at this; cases this
theorem rowR_mem {rs us : List Rt} {code : Str} {day : Int} {o : Option Rt} (e : ∀ r, appR code day r = true → (r ∈ rs ↔ r ∈ us)) (h : RowR rs code day o) : RowR us code day o := by
  cases o with
  | none =>
    intro r hr
    cases c : appR code day r with
    | false => rfl
    | true => have := h r ((e r c).mpr hr); rw [c] at this; cases this
  | some b => exact ⟨(e b h.2.1).mp h.1, h.2.1, fun q hq ha => h.2.2 q ((e q ha).mpr hq) ha⟩
theorem rowR_uniq {rs : List Rt} (ap : spotsApart rs) {code : Str} {day : Int} {a b : Option Rt} (ha : RowR rs code day a) (hb : RowR rs code day b) : a = b := by
  cases a with
  | none =>
    cases b with
    | none => rfl
    | some b => have := ha b hb.1; rw [hb.2.1] at this; cases this
  | some a =>
    cases b with
    | none => have := hb a ha.1; rw [ha.2.1] at this; cases this
    | some b =>
      have h1 := ha.2.2 b hb.1 hb.2.1
      have h2 := hb.2.2 a ha.1 ha.2.1
      have s1 := (Bool.and_eq_true_iff.mp (show (Txt.startswith code a.head && decide (a.day ≤ day)) = true from ha.2.1)).1
      have s2 := (Bool.and_eq_true_iff.mp (show (Txt.startswith code b.head && decide (b.day ≤ day)) = true from hb.2.1)).1
      unfold betterR at h1 h2
      have hl : a.head.length = b.head.length := by
        apply Classical.byContradiction
        intro c
        rw [if_neg (fun z => c z.symm)] at h1
        rw [if_neg c] at h2
        have := of_decide_eq_false h1
        have := of_decide_eq_false h2
        omega
      rw [if_pos hl.symm] at h1
      rw [if_pos hl] at h2
      have := of_decide_eq_false h1
      have := of_decide_eq_false h2
      congr 1
      exact apart_eq ap a ha.1 b hb.1 (spot_eq.mpr ⟨starts_same s1 s2 (by omega), by omega⟩)
/-- the better of two -/
def betR : Option Rt → Option Rt → Option Rt
  | none, b => b
  | a, none => a
  | some a, some b => if PySem.W.dataLt (keyI a.head.length a.day) (keyI b.head.length b.day) = true then some b else some a
theorem key_better (a b : Rt) : PySem.W.dataLt (keyI a.head.length a.day) (keyI b.head.length b.day) = betterR b a := by
  unfold keyI betterR
  rw [PySem.W.dataLt_ii]
  by_cases h : b.head.length = a.head.length
  · rw [if_pos h]
    congr 1
    exact propext ⟨fun z => by omega, fun z => by omega⟩
  · rw [if_neg h]
    congr 1
    exact propext ⟨fun z => by omega, fun z => by omega⟩
theorem betR_row {rs us : List Rt} {code : Str} {day : Int} {a b : Option Rt} (ha : RowR rs code day a) (hb : RowR us code day b) : RowR (rs ++ us) code day (betR a b) := by
  cases a with
  | none =>
    cases b with
    | none => exact fun r hr => (List.mem_append.mp hr).elim (ha r) (hb r)
    | some b =>
      refine ⟨List.mem_append.mpr (.inr hb.1), hb.2.1, fun q hq hA => ?_⟩
      rcases List.mem_append.mp hq with hq | hq
      · rw [ha q hq] at hA; cases hA
      · exact hb.2.2 q hq hA
  | some a =>
    cases b with
    | none =>
      refine ⟨List.mem_append.mpr (.inl ha.1), ha.2.1, fun q hq hA => ?_⟩
      rcases List.mem_append.mp hq with hq | hq
      · exact ha.2.2 q hq hA
      · rw [hb q hq] at hA; cases hA
    | some b =>
      show RowR (rs ++ us) code day (if _ then _ else _)
      rw [key_better]
      cases c : betterR b a with
      | true =>
        rw [if_pos rfl]
        refine ⟨List.mem_append.mpr (.inr hb.1), hb.2.1, fun q hq hA => ?_⟩
        rcases List.mem_append.mp hq with hq | hq
        · exact better_neg (ha.2.2 q hq hA) (better_asym c)
        · exact hb.2.2 q hq hA
      | false =>
        rw [if_neg Bool.false_ne_true]
        refine ⟨List.mem_append.mpr (.inl ha.1), ha.2.1, fun q hq hA => ?_⟩
        rcases List.mem_append.mp hq with hq | hq
        · exact ha.2.2 q hq hA
        · exact better_neg (hb.2.2 q hq hA) c
def rowD : Option Rt → Dt
  | none => .non
  | some r => r.d
/-- rows in their order -/
def sortR (rs : List Rt) : List Rt := rs.mergeSort fun a b => leD a.d b.d
theorem sortR_D (rs : List Rt) : sortD (rs.map Rt.d) = (sortR rs).map Rt.d := by
  unfold sortD sortR
  exact (List.map_mergeSort (r := fun a b : Rt => leD a.d b.d) (s := leD) (f := Rt.d) fun _ _ _ _ => rfl).symm
theorem sortR_mem {rs : List Rt} {r : Rt} : r ∈ sortR rs ↔ r ∈ rs := List.mem_mergeSort
theorem sortR_len (rs : List Rt) : (sortR rs).length = rs.length := List.length_mergeSort _
theorem apart_perm {rs us : List Rt} (p : rs.Perm us) (h : spotsApart rs) : spotsApart us := p.pairwise h fun {a b} h z => h z.symm
theorem sortR_apart {rs : List Rt} (h : spotsApart rs) : spotsApart (sortR rs) := apart_perm (List.mergeSort_perm rs _).symm h
theorem itP {c : Bool} {A B : Prop} (h : c = true) (a : A) : if c = true then A else B := by rw [if_pos h]; exact a
theorem itN {c : Bool} {A B : Prop} (h : ¬ c = true) (a : B) : if c = true then A else B := by rw [if_neg h]; exact a
theorem onNT {Pp Q : Prop} {b : Bool} (hb : b = true) (h : Q) : onBl (.bl b) fun k => if (!k) = true then Pp else Q := by
  subst hb
  show if (!true) = true then Pp else Q
  rw [if_neg (by decide)]; exact h
abbrev qBetter : Str := "_law_better.<locals>.<lambda>"
def cBetter (TT : List (Addr × Str)) : Ct UU := fun ds w Q => ∃ (T : Addr) (v : unitW.W) (x : Dt) (a b : Option Rt), w = mkW T v ∧ vTabs v = TT ∧ ds = [x, rowD a, rowD b] ∧ (∀ r, a = some r → r.ok) ∧ (∀ r, b = some r → r.ok) ∧ Q (rowD (betR a b)) w
theorem ok_law_better {TT : List (Addr × Str)} {c P' : Addr} (bi : BI mg) (TB : LamX.TabB base mg c P') (F : Fun K "_law_better" "_law_better" s__law_better f fd) (hcd : fd.code = .ref c) (hm : (P', qBetter) ∈ TT) (hu : ∀ p ∈ TT, p.1 = P' → p.2 = qBetter) : FnOk P wd K mg base CX0 4 f fd ["rates", "one", "other"] (spOf UU K (cBetter TT)) := by
  have hM : ∀ (cdv : Value) (A : Around) (outer : List Env) (s : Shared) (H : Hp) (E : XK), cdv = .ref c → Room 3 (A.deeper (PyProof.Rows.envOfC "_law_better" (defScope s__law_better) s.heap.objs.size f cdv)) →
      DE (cxOf CX0 P wd K mg base n__law_better "_law_better" (defScope s__law_better) f cdv A outer s H E).nox UU (sortX ((defBody s__law_better).getD 1 (.Pass ⟨0, 0, 0, 0⟩))) (dMK P' qBetter (dVar 1) (dVar 2)) := fun cdv A outer s H E hcdv hr => by
    exact de_maxKey (n := 0) rfl hr.units (by rfl) bi.max bi.len (hr.mono (by decide)) (de_var 1) (de_var 2) TB hcdv (lenS_by (by decide +kernel)) rfl rfl (fun _ _ _ _ _ => rfl)
  refine ok_defC F hcd sc__law_better (fun cdv A outer s H E hcdv hr => (dss_cons (ds_if (dw_or (dt_cmp op_isN bin_isN (de_var 1).bo de_non.bo (nomark _)) (dw_or1 (dt_cmp op_isN bin_isN (de_var 2).bo de_non.bo (nomark _)))).dt (dss_one (ds_ret (de_ifExp (dt_cmp op_isN bin_isN (de_var 1).bo de_non.bo (nomark _)) (de_var 2) (de_var 1)))) dss_nil) (dss_one (ds_ret (hM cdv A outer s H E hcdv hr))))) (fun ds w Q h => ?_) (fun ds w Q h => ?_)
  · obtain ⟨T, v, x, a, b, _, _, rfl, _⟩ := h; rfl
  · obtain ⟨T, v, x, a, b, rfl, hv, rfl, ha, hb, h⟩ := h
    have isn : ∀ o, (rowD o).isN = o.isNone := fun o => by cases o <;> rfl
    walk_at "my go"
    cases a with
    | none =>
      refine itP rfl (itP rfl ?_)
      cases b <;> exact h
    | some a =>
      refine itN (show ¬ (false = true) from Bool.false_ne_true) ?_
      cases b with
      | none => exact itP rfl (itN (show ¬ (false = true) from Bool.false_ne_true) h)
      | some b =>
        refine itN (show ¬ (false = true) from Bool.false_ne_true) ⟨⟨by rw [hv]; exact hm, by rw [hv]; exact hu⟩, a.head, b.head, a.day, b.day, _, _, rfl, rfl, ?_, ?_, ?_⟩
        · have := (code_len (ha a rfl).1).2; exact sl1000 (by omega)
        · have := (code_len (hb b rfl).1).2; exact sl1000 (by omega)
        · have e : betR (some a) (some b) = if PySem.W.dataLt (keyI a.head.length a.day) (keyI b.head.length b.day) = true then some b else some a := rfl
          rw [e] at h
          split
          · rename_i c; rw [if_pos c] at h; exact h
          · rename_i c; rw [if_neg c] at h; exact h
def cLRow : Ct UU := fun ds w Q => ∃ (rs : List Rt) (code : Str) (day : Int), ds = [.tup (rs.map Rt.d), .str code, .int day] ∧ rs.length ≤ 1000 ∧ (∀ r ∈ rs, r.ok) ∧ ∀ o, RowR rs code day o → Q (rowD o) w
theorem ok_law_row (bi : BI mg) (F : Fun K "_law_row" "_law_row" s__law_row f fd) (h_row_for : Cal UU P wd K mg base "row_for" 1 cRowFor) : FnOk P wd K mg base CX0 2 f fd ["rates", "code", "day"] (spOf UU K cLRow) := by
  refine ok_def F sc__law_row (fun cdv A outer s H E hr => (dss_cons (ds_set (i := 3) sc__law_row.nd rfl (.inl rfl) (de_cal h_row_for (hr.mono (by first | decide | omega)) (by rfl) (da_cons (de_var 0) (da_cons (de_var 1) (da_cons (de_var 2) da_nil))))) (dss_one (ds_ret (de_ifExp (dt_cmp op_isN bin_isN (de_var 3).bo de_non.bo (nomark _)) de_non (de_ix (de_var 0).bo (de_var 3).bo)))))) (fun ds w Q h => ?_) (fun ds w Q h => ?_)
  · obtain ⟨rs, code, day, rfl, _⟩ := h; rfl
  · obtain ⟨rs, code, day, rfl, hl, hr, h⟩ := h
    walk_at "my go"
    refine ⟨rs, code, day, rfl, hl, hr, fun res hres => ?_⟩
    have q := h _ (rowR_of hres)
    cases res with
    | none => exact itP rfl q
    | some p =>
      refine itN (by show ¬ (false = true); exact Bool.false_ne_true) ?_
      unfold placeD
      walk_at "my go"
      exact ⟨_, rate_ix hres.1, q⟩
def Rt.sp (r : Rt) : Dt := .tup [.str r.head, .int r.day]
def spD : Dt → Dt
  | .tup [h, d, _, _] => .tup [h, d]
  | _ => .non
theorem sp_rows (rs : List Rt) : (rs.map Rt.d).map spD = rs.map Rt.sp := by rw [List.map_map]; rfl
def others (rs us : List Rt) : List Rt := us.filter fun u => !(rs.map Rt.sp).any fun s => eqd s u.sp
theorem others_f (rs us : List Rt) : (us.map Rt.d).filter (fun d => !(rs.map Rt.sp).any fun s => eqd s (spD d)) = (others rs us).map Rt.d := by
  unfold others
  rw [List.filter_map]; rfl
theorem sp_eq {a b : Rt} : eqd a.sp b.sp = true ↔ a.spot = b.spot := by
  have e : eqd a.sp b.sp = (decide (a.head = b.head) && ((a.day == b.day) && true)) := rfl
  rw [e, Bool.and_true, Bool.and_eq_true, decide_eq_true_eq, beq_iff_eq, spot_eq]
theorem any_sp {rs : List Rt} {u : Rt} : ((rs.map Rt.sp).any fun s => eqd s u.sp) = true ↔ ∃ r ∈ rs, r.spot = u.spot := by
  rw [List.any_map, List.any_eq_true]
  exact ⟨fun ⟨r, h1, h2⟩ => ⟨r, h1, sp_eq.mp h2⟩, fun ⟨r, h1, h2⟩ => ⟨r, h1, sp_eq.mpr h2⟩⟩
theorem others_ok {rs us : List Rt} (hr : RatesOk rs) (hu : RatesOk us) : (∀ r ∈ rs ++ others rs us, r.ok) ∧ spotsApart (rs ++ others rs us) := by
  refine ⟨fun r h => ?_, List.pairwise_append.mpr ⟨apart_of hr.2, (apart_of hu.2).filter _, fun a ha b hb e => ?_⟩⟩
  · rcases List.mem_append.mp h with h | h
    · exact hr.1 r h
    · exact hu.1 r (List.mem_filter.mp h).1
  · have := (List.mem_filter.mp hb).2
    rw [any_sp.mpr ⟨a, ha, e⟩] at this; cases this
theorem row_g0 {r : Rt} {Q : Dt → Prop} (h : Q (.str r.head)) : gIx (rowD (some r)) (.int 0) Q := by
  unfold rowD Rt.d
  walk_at "my go"
  exact h
def fltD (code : Str) (day : Int) : Dt → Bool
  | .tup [.str h, .int d, _, _] => decide (d ≤ day) && decide (cutS code none (some (h.length : Int)) = h)
  | _ => false
theorem flt_rows {code : Str} {day : Int} (bs : List Rt) : (bs.map Rt.d).filter (fltD code day) = (bs.filter (appR code day)).map Rt.d := by
  rw [List.filter_map]
  congr 1
  refine List.filter_congr fun r _ => ?_
  rw [app_cut]
  show (decide (r.day ≤ day) && decide (cutS code none (some (r.head.length : Int)) = r.head)) = _
  rw [Bool.and_comm]
theorem starts_len {x y : Str} (h : Txt.startswith x y = true) : y.length ≤ x.length := by
  rw [starts_cut] at h
  have e := of_decide_eq_true h
  have := cut_len x none (some (y.length : Int))
  rw [e] at this; exact this
theorem starts_self (x : Str) : Txt.startswith x x = true := by
  rw [starts_cut]
  refine decide_eq_true ?_
  have e := cut_lo (s := x) (k := x.length) (Nat.le_refl _)
  have e2 : x.length = x.cps.toList.length := rfl
  rw [List.take_of_length_le (by omega)] at e
  cases hx : cutS x none (some (x.length : Int))
  rw [hx] at e
  cases x
  congr 1
  exact Array.toList_inj.mp e
theorem seven {code : Str} {n : Nat} (hc : dCode (.str code) = true) (hn : n ≤ code.length) : dCode (.str (cutS (code ++ "7") none (some ((n : Int) + 1)))) = decide ((cutS (code ++ "7") none (some ((n : Int) + 1))).length ≤ 6) ∧ (cutS (code ++ "7") none (some ((n : Int) + 1))).length = n + 1 := by
  have e7 : (code ++ "7").length = code.length + 1 := Str.length_append ..
  have e := cut_lo (s := code ++ "7") (k := n + 1) (by omega)
  have ei : ((n : Int) + 1) = ((n + 1 : Nat) : Int) := by omega
  rw [ei]
  have l : (cutS (code ++ "7") none (some ((n + 1 : Nat) : Int))).length = n + 1 := by
    show (cutS (code ++ "7") none (some ((n + 1 : Nat) : Int))).cps.toList.length = _
    rw [e, List.length_take]
    have : (code ++ "7").length = (code ++ "7").cps.toList.length := rfl
    omega
  refine ⟨?_, l⟩
  have hf : figs code = true := (Bool.and_eq_true_iff.mp (show (decide (1 ≤ code.length) && decide (code.length ≤ 6) && figs code) = true from hc)).2
  have f : figs (cutS (code ++ "7") none (some ((n + 1 : Nat) : Int))) = true := by
    unfold figs
    rw [e, List.all_eq_true]
    intro c h
    have h := List.mem_of_mem_take h
    have h : c ∈ code.cps.toList ++ ("7" : Str).cps.toList := by
      have e2 : (code ++ "7").cps.toList = code.cps.toList ++ ("7" : Str).cps.toList := by
        show (code.cps ++ ("7" : Str).cps).toList = _
        rw [Array.toList_append]
      rw [← e2]; exact h
    rcases List.mem_append.mp h with h | h
    · exact List.all_eq_true.mp hf c h
    · have h : c ∈ [55] := h
      cases List.mem_singleton.mp h
      decide
  show (decide (1 ≤ _) && decide (_ ≤ 6) && figs _) = _
  rw [f, Bool.and_true, decide_eq_true (by omega), Bool.true_and]
theorem ok_the_law {TT : List (Addr × Str)} (bi : BI mg) (F : Fun K "law" "law" s_law f fd) (h__law_draw : Cal UU P wd K mg base "_law_draw" 1 (cDraw unitW)) (h__law_code : Cal UU P wd K mg base "_law_code" 2 cLCode) (h__law_rates : Cal UU P wd K mg base "_law_rates" 3 (cLRates K TT)) (h__law_row : Cal UU P wd K mg base "_law_row" 2 cLRow) (h__law_better : Cal UU P wd K mg base "_law_better" 4 (cBetter TT)) : FnOk P wd K mg base CX0 100 f fd ["script"] (spLawT (TT.map (·.1)) K) := by
  refine ok_lawT (Vw := dcW) (k := 99) (TT.map (·.1)) (v0T K TT) (dcT_rep0 TT) (dcT_foot0 TT) F sc_law rfl (fun cdv A outer s H E => ps_asg (pe_lst (pa_cons (pe_callTy call_list_of (by rfl) bi.list (by decide +kernel) (pa_cons (pe_var rfl (.inl rfl)) pa_nil)) (pa_cons pe_int (pa_cons pe_int pa_nil)))) (pg_name (i := 1) sc_law.nd rfl (by first | exact Or.inl rfl | exact Or.inr rfl))) (fun cdv A outer s H E hr => (dss_cons (ds_for PassesOwn.never rfl (di_range1 (by rfl) bi.range (da_cons de_int da_nil)) (dg_name (i := 2) sc_law.nd rfl (.inl rfl)) (dss_cons (ds_set (i := 3) sc_law.nd rfl (.inl rfl) (de_cal h__law_rates (hr.mono (by first | decide | omega)) (by rfl) (da_cons (de_var 1) (da_cons de_int da_nil)))) (dss_cons (ds_set (i := 4) sc_law.nd rfl (by first | exact Or.inl rfl | exact Or.inr rfl) (df_comp (own := [("row", 16)]) rfl sc_law.nd (di_tup (de_var 3)) (blkOk_by (own := [("row", 16)]) (N := n_law) (sc := defScope s_law) (by decide +kernel)) (fun _ _ _ _ _ => (dg_name (i := 16) sc_law.nd rfl (.inl rfl))) (fun _ _ _ _ _ => dts_nil) (fun _ _ _ _ _ => (de_slice (de_var 16).bo do_none (do_some de_int.bo)))).de) (dss_cons (ds_set (i := 5) sc_law.nd rfl (.inl rfl) (de_tuple (by rfl) bi.tuple (df_comp (own := [("row", 16)]) rfl sc_law.nd (di_tup (de_cal h__law_rates (hr.mono (by first | decide | omega)) (by rfl) (da_cons (de_var 1) (da_cons de_int da_nil)))) (blkOk_by (own := [("row", 16)]) (N := n_law) (sc := defScope s_law) (by decide +kernel)) (fun _ _ _ _ _ => (dg_name (i := 16) sc_law.nd rfl (.inl rfl))) (fun _ _ _ _ _ => (dts_one (dt_cmp (op_notInD hr.units1) bin_notInX (de_slice (de_var 16).bo do_none (do_some de_int.bo)).bo (de_var 4).bo (by rfl)))) (fun _ _ _ _ _ => (de_var 16))).bo)) (dss_cons (ds_set (i := 6) sc_law.nd rfl (.inl rfl) (de_tuple (by rfl) bi.tuple (df_sortedT hr.units (by rfl) bi.sorted (de_add (de_var 3).bo (de_var 5).bo).bo).bo)) (dss_one (ds_for PassesOwn.never rfl (di_range1 (by rfl) bi.range (da_cons de_int da_nil)) (dg_name (i := 7) sc_law.nd rfl (.inl rfl)) (dss_cons (ds_asg (de_tup (da_cons (de_cal h__law_code (hr.mono (by first | decide | omega)) (by rfl) (da_cons (de_var 1) da_nil)) (da_cons (de_ix (df_lst (da_cons de_int (da_cons de_int (da_cons de_int (da_cons de_int (da_cons (de_cal h__law_draw (hr.mono (by first | decide | omega)) (by rfl) (da_cons (de_var 1) (da_cons de_int da_nil))) da_nil)))))).bo (de_cal h__law_draw (hr.mono (by first | decide | omega)) (by rfl) (da_cons (de_var 1) (da_cons de_int da_nil))).bo) da_nil))) (dg_tup (n := 2) rfl (dgs_cons (dg_name (i := 8) sc_law.nd rfl (by first | exact Or.inl rfl | exact Or.inr rfl)) (dgs_cons (dg_name (i := 9) sc_law.nd rfl (by first | exact Or.inl rfl | exact Or.inr rfl)) dgs_nil)))) (dss_cons (ds_set (i := 10) sc_law.nd rfl (.inl rfl) (de_cal h__law_better (hr.mono (by first | decide | omega)) (by rfl) (da_cons (de_var 6) (da_cons (de_cal h__law_row (hr.mono (by first | decide | omega)) (by rfl) (da_cons (de_var 3) (da_cons (de_var 8) (da_cons (de_var 9) da_nil)))) (da_cons (de_cal h__law_row (hr.mono (by first | decide | omega)) (by rfl) (da_cons (de_var 5) (da_cons (de_var 8) (da_cons (de_var 9) da_nil)))) da_nil))))) (dss_cons (ds_if (dt_cmp (op_neX hr.units) bin_ne (de_cal h__law_row (hr.mono (by first | decide | omega)) (by rfl) (da_cons (de_var 6) (da_cons (de_var 8) (da_cons (de_var 9) da_nil)))).bo (de_var 10).bo (nomark _)) (dss_one (ds_ret de_bl)) dss_nil) (dss_cons (ds_set (i := 11) sc_law.nd rfl (.inl rfl) (de_tuple (by rfl) bi.tuple (df_comp (own := [("row", 16)]) rfl sc_law.nd (di_tup (de_var 6)) (blkOk_by (own := [("row", 16)]) (N := n_law) (sc := defScope s_law) (by decide +kernel)) (fun _ _ _ _ _ => (dg_name (i := 16) sc_law.nd rfl (.inl rfl))) (fun _ _ _ _ _ => (dts_one (dw_and (dt_cmp op_le bin_le (de_ix (de_var 16).bo de_int.bo).bo (de_var 9).bo (nomark _)) (dw_and1 (dt_cmp (op_eqX hr.units) bin_eq (de_slice (de_var 8).bo do_none (do_some (de_len (by rfl) bi.len (de_ix (de_var 16).bo de_int.bo).bo).bo)).bo (de_ix (de_var 16).bo de_int.bo).bo (nomark _)))).dt)) (fun _ _ _ _ _ => (de_var 16))).bo)) (dss_cons (ds_if (dt_cmp (op_neX hr.units) bin_ne (de_cal h__law_row (hr.mono (by first | decide | omega)) (by rfl) (da_cons (de_var 11) (da_cons (de_var 8) (da_cons (de_var 9) da_nil)))).bo (de_var 10).bo (nomark _)) (dss_one (ds_ret de_bl)) dss_nil) (dss_cons (ds_if (dt_cmp op_isN bin_isN (de_var 10).bo de_non.bo (nomark _)) (dss_one ds_continue) dss_nil) (dss_cons (ds_set (i := 12) sc_law.nd rfl (.inl rfl) (de_slice (de_add (de_var 8).bo (de_str (by decide +kernel)).bo).bo do_none (do_some (de_add (de_len (by rfl) bi.len (de_ix (de_var 10).bo de_int.bo).bo).bo de_int.bo).bo))) (dss_cons (ds_if (dw_or (dt_cmp op_gt bin_gt (de_len (by rfl) bi.len (de_var 12).bo).bo de_int.bo (nomark _)) (dw_or (dt_cmp (op_inD hr.units1) bin_inX (de_tup (da_cons (de_var 12) (da_cons (de_var 9) da_nil))).bo (df_comp (own := [("row", 16)]) rfl sc_law.nd (di_tup (de_var 6)) (blkOk_by (own := [("row", 16)]) (N := n_law) (sc := defScope s_law) (by decide +kernel)) (fun _ _ _ _ _ => (dg_name (i := 16) sc_law.nd rfl (.inl rfl))) (fun _ _ _ _ _ => dts_nil) (fun _ _ _ _ _ => (de_slice (de_var 16).bo do_none (do_some de_int.bo)))).bo (by rfl)) (dw_or1 (dt_cmp op_gt bin_gt (de_len (by rfl) bi.len (de_var 6).bo).bo de_int.bo (nomark _))))).dt (dss_one ds_continue) dss_nil) (dss_cons (ds_set (i := 13) sc_law.nd rfl (.inl rfl) (de_tuple (by rfl) bi.tuple (df_sortedT hr.units (by rfl) bi.sorted (de_add (de_var 6).bo (de_tup (da_cons (de_tup (da_cons (de_var 12) (da_cons (de_var 9) (da_cons de_int (da_cons de_int da_nil))))) da_nil)).bo).bo).bo)) (dss_cons (ds_for PassesOwn.never rfl (di_list (df_lst (da_cons (de_tup (da_cons (de_var 8) (da_cons (de_var 9) da_nil))) (da_cons (de_tup (da_cons (de_var 8) (da_cons (de_sub (de_var 9).bo de_int.bo) da_nil))) (da_cons (de_tup (da_cons (de_var 8) (da_cons de_int da_nil))) (da_cons (de_tup (da_cons (de_var 12) (da_cons (de_var 9) da_nil))) (da_cons (de_tup (da_cons (de_add (de_str (by decide +kernel)).bo (de_slice (de_var 8).bo (do_some de_int.bo) do_none).bo) (da_cons (de_var 9) da_nil))) da_nil)))))).de) (dg_tup (n := 2) rfl (dgs_cons (dg_name (i := 14) sc_law.nd rfl (.inl rfl)) (dgs_cons (dg_name (i := 15) sc_law.nd rfl (.inl rfl)) dgs_nil))) (dss_cons (ds_if (dw_and (dt_cmp op_le bin_le de_int.bo (de_var 15).bo (nomark _)) (dw_and (dt_not (dt_val (de_startswith (de_var 14).bo (de_var 12).bo).bo)) (dw_and1 (dt_cmp (op_neX hr.units) bin_ne (de_cal h__law_row (hr.mono (by first | decide | omega)) (by rfl) (da_cons (de_var 13) (da_cons (de_var 14) (da_cons (de_var 15) da_nil)))).bo (de_cal h__law_row (hr.mono (by first | decide | omega)) (by rfl) (da_cons (de_var 6) (da_cons (de_var 14) (da_cons (de_var 15) da_nil)))).bo (nomark _))))).dt (dss_one (ds_ret de_bl)) dss_nil) (dss_one (ds_if (dw_and (dt_chain op_le op_ltD bin_le bin_lt de_int.bo (de_var 15).bo (de_var 9).bo) (dw_and1 (dt_cmp (op_neX hr.units) bin_ne (de_cal h__law_row (hr.mono (by first | decide | omega)) (by rfl) (da_cons (de_var 13) (da_cons (de_var 14) (da_cons (de_var 15) da_nil)))).bo (de_cal h__law_row (hr.mono (by first | decide | omega)) (by rfl) (da_cons (de_var 6) (da_cons (de_var 14) (da_cons (de_var 15) da_nil)))).bo (nomark _)))).dt (dss_one (ds_ret de_bl)) dss_nil)))) (dss_one (ds_if (dt_cmp (op_neX hr.units) bin_ne (de_cal h__law_row (hr.mono (by first | decide | omega)) (by rfl) (da_cons (de_var 13) (da_cons (de_var 12) (da_cons (de_var 9) da_nil)))).bo (de_tup (da_cons (de_var 12) (da_cons (de_var 9) (da_cons de_int (da_cons de_int da_nil))))).bo (nomark _)) (dss_one (ds_ret de_bl)) dss_nil))))))))))))))))))) (dss_one (ds_ret de_bl)))) (fun T => ?_)
  walk_at "my go"
  refine goF_all (fun ρ w => ∃ s2 s3 s4 s5 s6 s7 s8 s9 s10 s11 s12 s13 s14 s15 s16 v, ρ = [none, some (.d (.ref T)), s2, s3, s4, s5, s6, s7, s8, s9, s10, s11, s12, s13, s14, s15, s16] ∧ (vK v = K ∧ vTabs v = TT) ∧ w = mkW T v) _ _ _ ?_ ⟨none, none, none, none, none, none, none, none, none, none, none, none, none, none, none, _, rfl, ⟨rfl, rfl⟩, rfl⟩ ?_
  · rintro d _ _ _ ⟨s2, s3, s4, s5, s6, s7, s8, s9, s10, s11, s12, s13, s14, s15, s16, v, rfl, hv, rfl⟩ R hR
    walk_at "my go"
    refine ⟨T, v, 8, rfl, hv, rfl, by decide, fun rs v hrs hrl hv => ?_⟩
    try walk_at "my go"
    refine goC_map spD _ _ (fun d hd R hR => ?_) (by rw [List.length_nil, List.length_map]; exact sl1000 (by omega)) ?_
    · obtain ⟨r, _, rfl⟩ := List.mem_map.mp hd
      unfold Rt.d
      walk_at "my go"
      exact hR
    rw [List.nil_append, sp_rows]
    refine ⟨T, v, 8, rfl, hv, rfl, by decide, fun us v hus hul hv => ?_⟩
    try walk_at "my go"
    refine goC_filter (fun d => !(rs.map Rt.sp).any fun s => eqd s (spD d)) id _ _ (fun d hd R hR => ?_) (fun d hd _ R hR => ?_) (by rw [List.length_nil, List.length_map]; exact sl1000 (by omega)) ?_
    · obtain ⟨r, _, rfl⟩ := List.mem_map.mp hd
      unfold Rt.d at hR ⊢
      walk_at "my go"
      refine ⟨rfl, npL_iff.mpr fun y hy => ?_, Nat.le_of_ble_eq_true rfl, depL_le.mpr fun y hy => ?_, ?_⟩
      · obtain ⟨r, _, rfl⟩ := List.mem_map.mp hy; rfl
      · obtain ⟨r, _, rfl⟩ := List.mem_map.mp hy; exact Nat.le_of_ble_eq_true rfl
      · rw [Bool.true_xor]; exact hR
    · walk_at "my go"; exact hR
    rw [List.nil_append, List.map_id, others_f]
    obtain ⟨bok, bap⟩ := others_ok hrs hus
    have ol : (others rs us).length ≤ 8 := Nat.le_trans (List.length_filter_le ..) hul
    have ook : ∀ r ∈ others rs us, r.ok := fun r h => bok r (List.mem_append.mpr (.inr h))
    generalize others rs us = os at bok bap ol ook
    have bl : (rs ++ os).length ≤ 16 := by rw [List.length_append]; omega
    rw [← List.map_append]
    refine ⟨sl1000 (by rw [List.length_map, List.length_map]; omega), srt_rows _, ?_⟩
    rw [sortR_D]
    have mok : ∀ r ∈ sortR (rs ++ os), r.ok := fun r h => bok r (sortR_mem.mp h)
    have map_ := sortR_apart bap
    have ml : (sortR (rs ++ os)).length ≤ 16 := by rw [sortR_len]; exact bl
    have msame : ∀ {code day o}, RowR (rs ++ os) code day o → RowR (sortR (rs ++ os)) code day o := fun {code day o} h => rowR_mem (fun r _ => sortR_mem.symm) h
    generalize sortR (rs ++ os) = bs at mok map_ ml msame
    refine goF_all (fun ρ w => ∃ s7 s8 s9 s10 s11 s12 s13 s14 s15 s16 v, ρ = [none, some (.d (.ref T)), some (.d d), some (.d (.tup (rs.map Rt.d))), some (.d (.lst (rs.map Rt.sp))), some (.d (.tup (os.map Rt.d))), some (.d (.tup (bs.map Rt.d))), s7, s8, s9, s10, s11, s12, s13, s14, s15, s16] ∧ (vK v = K ∧ vTabs v = TT) ∧ w = mkW T v) _ _ _ ?_ ⟨_, _, _, _, _, _, _, _, _, _, _, rfl, hv, rfl⟩ ?_
    · rintro kd _ _ _ ⟨s7, s8, s9, s10, s11, s12, s13, s14, s15, s16, v, rfl, hv, rfl⟩ R2 hR2
      walk_at "my go"
      refine ⟨T, v, rfl, rfl, fun code hcode => ?_⟩
      try walk_at "my go"
      refine fun a a0 a1 b b0 b1 => at_ex b0 b1 fun z hz => ?_
      obtain ⟨day, rfl, d0, d1⟩ : ∃ i : Int, z = .int i ∧ 0 ≤ i ∧ i ≤ 9999 := by
        simp only [List.mem_cons, List.not_mem_nil, or_false] at hz
        rcases hz with rfl | rfl | rfl | rfl | rfl <;> exact ⟨_, rfl, by omega, by omega⟩
      try walk_at "my go"
      refine ⟨rfl, rs, code, day, rfl, by omega, hrs.1, fun oa ha => ?_⟩
      try walk_at "my go"
      refine ⟨os, code, day, rfl, by omega, ook, fun ob hb => ?_⟩
      try walk_at "my go"
      have hbest := msame (betR_row ha hb)
      refine ⟨T, v, _, oa, ob, rfl, hv.2, rfl, fun r e => by subst e; exact hrs.1 r ha.1, fun r e => by subst e; exact ook r hb.1, ?_⟩
      generalize betR oa ob = ow at hbest
      try walk_at "my go"
      have rdn : ∀ o, (rowD o).np = true ∧ (rowD o).dep ≤ 64 := fun o => by
        cases o with
        | none => exact ⟨rfl, Nat.zero_le _⟩
        | some r => exact ⟨rfl, Nat.le_of_ble_eq_true rfl⟩
      have ne : ∀ {o o' : Option Rt} {Q : Dt → Prop}, o = o' → Q (.bl false) → gNe (rowD o) (rowD o') Q := fun {o o' Q} e h => by
        subst e
        exact gNe_of (rdn o).1 (rdn o).1 (.inl (rdn o).2) (by rw [eqd_refl _ (rdn o).1]; exact h)
      refine ⟨bs, code, day, rfl, by omega, mok, fun oc hc => ne (rowR_uniq map_ hc hbest) ?_⟩
      try walk_at "my go"
      refine goC_filter (fltD code day) id _ _ (fun d hd R hR => ?_) (fun d hd _ R hR => ?_) (by rw [List.length_nil, List.length_map]; exact sl1000 (by omega)) ?_
      · obtain ⟨r, hr, rfl⟩ := List.mem_map.mp hd
        have hR : R (decide (r.day ≤ day) && decide (cutS code none (some (r.head.length : Int)) = r.head)) (mkW T v) := hR
        have cl := code_len hcode
        have rl := code_len (mok r hr).1
        unfold Rt.d
        walk_at "my go"
        by_cases c : r.day ≤ day
        · rw [decide_eq_true c, Bool.true_and] at hR
          exact itP (decide_eq_true c) ⟨sl1000 (by omega), sl1000 (by omega), hR⟩
        · rw [decide_eq_false c, Bool.false_and] at hR
          exact itN (by rw [decide_eq_false c]; exact Bool.false_ne_true) hR
      · walk_at "my go"; exact hR
      rw [List.nil_append, List.map_id, flt_rows]
      have fl : (bs.filter (appR code day)).length ≤ 16 := Nat.le_trans (List.length_filter_le ..) ml
      refine ⟨bs.filter (appR code day), code, day, rfl, by omega, fun r hr => mok r (List.mem_filter.mp hr).1, fun od hd => ne (rowR_uniq map_ (rowR_mem (fun r h => ⟨fun z => (List.mem_filter.mp z).1, fun z => List.mem_filter.mpr ⟨z, h⟩⟩) hd) hbest) ?_⟩
      try walk_at "my go"
      cases ow with
      | none => exact itP rfl (hR2 _ _ ⟨_, _, _, _, _, _, _, _, _, _, _, rfl, hv, rfl⟩)
      | some bb =>
      refine itN (show ¬ (false = true) from Bool.false_ne_true) ?_
      have cl := code_len hcode
      have bb_ok := mok bb hbest.1
      have bl2 := code_len bb_ok.1
      have st := (Bool.and_eq_true_iff.mp (show (Txt.startswith code bb.head && decide (bb.day ≤ day)) = true from hbest.2.1)).1
      have hle : bb.head.length ≤ code.length := starts_len st
      have e7 : ("7" : Str).length = 1 := rfl
      have c7 : (code ++ "7").length = code.length + 1 := by rw [Str.length_append, e7]
      refine ⟨sl1000 (by rw [e7]; omega), row_g0 ?_⟩
      walk_at "my go"
      refine ⟨sl1000 (by omega), sl1000 (by rw [c7]; omega), ?_⟩
      have hhead : dCode (.str (cutS (code ++ "7") none (some ((bb.head.length : Int) + 1)))) = decide ((cutS (code ++ "7") none (some ((bb.head.length : Int) + 1))).length ≤ 6) ∧ (cutS (code ++ "7") none (some ((bb.head.length : Int) + 1))).length = bb.head.length + 1 := seven hcode hle
      generalize cutS (code ++ "7") none (some ((bb.head.length : Int) + 1)) = head at hhead
      obtain ⟨hh1, hh2⟩ := hhead
      refine ⟨sl1000 (by omega), ?_⟩
      by_cases c6 : head.length ≤ 6
      · refine itN (by rw [decide_eq_false (by omega)]; exact Bool.false_ne_true) ?_
        rw [decide_eq_true c6] at hh1
        refine goC_map spD _ _ (fun d hd R hR => ?_) (by rw [List.length_nil, List.length_map]; exact sl1000 (by omega)) ?_
        · obtain ⟨r, _, rfl⟩ := List.mem_map.mp hd
          unfold Rt.d
          walk_at "my go"
          exact hR
        rw [List.nil_append, sp_rows]
        refine ⟨rfl, npL_iff.mpr fun y hy => ?_, Nat.le_of_ble_eq_true rfl, depL_le.mpr fun y hy => ?_, ?_⟩
        · obtain ⟨r, _, rfl⟩ := List.mem_map.mp hy; rfl
        · obtain ⟨r, _, rfl⟩ := List.mem_map.mp hy; exact Nat.le_of_ble_eq_true rfl
        rw [Bool.false_xor]
        have enw : (Dt.tup [.str head, .int day]) = Rt.sp ⟨head, day, 1, 1⟩ := rfl
        rw [enw]
        cases cin : (bs.map Rt.sp).any fun z => eqd z (Rt.sp ⟨head, day, 1, 1⟩) with
        | true => exact itP rfl (hR2 _ _ ⟨_, _, _, _, _, _, _, _, _, _, _, rfl, hv, rfl⟩)
        | false =>
        refine itN Bool.false_ne_true ?_
        refine itN (by rw [decide_eq_false (by rw [List.length_map]; omega)]; exact Bool.false_ne_true) ?_
        have enw : (Dt.tup [.str head, .int day, .int 1, .int 1]) = Rt.d ⟨head, day, 1, 1⟩ := rfl
        rw [enw]
        have nwok : Rt.ok ⟨head, day, 1, 1⟩ := ⟨hh1, ⟨d0, d1⟩, ⟨Int.zero_le_ofNat 1, (by decide : (1 : Int) ≤ 100)⟩, Int.zero_le_ofNat 1, (by decide : (1 : Int) ≤ 1000)⟩
        have nap : spotsApart (bs ++ [⟨head, day, 1, 1⟩]) := List.pairwise_append.mpr ⟨map_, List.pairwise_singleton .., fun a ha b hb e => by
          cases List.mem_singleton.mp hb
          rw [any_sp.mpr ⟨a, ha, e⟩] at cin; cases cin⟩
        have nwin : ∀ r : Rt, r ∈ sortR (bs ++ [⟨head, day, 1, 1⟩]) ↔ r ∈ bs ∨ r = ⟨head, day, 1, 1⟩ := fun r => by
          rw [sortR_mem, List.mem_append, List.mem_singleton]
        have wap := sortR_apart nap
        have wl : (sortR (bs ++ [⟨head, day, 1, 1⟩])).length ≤ 17 := by rw [sortR_len, List.length_append]; show _ + 1 ≤ _; omega
        have wok : ∀ r ∈ sortR (bs ++ [⟨head, day, 1, 1⟩]), r.ok := fun r h => ((nwin r).mp h).elim (mok r) fun e => e ▸ nwok
        have e1 : bs.map Rt.d ++ [Rt.d ⟨head, day, 1, 1⟩] = (bs ++ [(⟨head, day, 1, 1⟩ : Rt)]).map Rt.d := by rw [List.map_append]; rfl
        rw [e1, sortR_D]
        refine ⟨sl1000 (by rw [List.length_map]; show _ + 1 ≤ _; omega), srt_rows _, sl1000 (by omega), sl1000 (by have := cut_len code (some 1) none; show 1 + _ ≤ _; omega), ?_⟩
        have same : ∀ {far : Str} {later : Int} {o o' : Option Rt}, appR far later ⟨head, day, 1, 1⟩ = false → RowR (sortR (bs ++ [⟨head, day, 1, 1⟩])) far later o → RowR bs far later o' → o = o' := fun {far later o o'} hf h h' =>
          rowR_uniq map_ (rowR_mem (fun r hr => by rw [nwin]; exact ⟨fun z => z.elim id fun e => (by subst e; rw [hf] at hr; cases hr), fun z => .inl z⟩) h) h'
        have top : ∀ {o : Option Rt}, RowR (sortR (bs ++ [⟨head, day, 1, 1⟩])) head day o → o = some ⟨head, day, 1, 1⟩ := fun {o} h => by
          refine rowR_uniq wap h ⟨(nwin _).mpr (.inr rfl), ?_, fun q hq ha => ?_⟩
          · show (Txt.startswith head head && decide (day ≤ day)) = true
            rw [starts_self, decide_eq_true (Int.le_refl _)]; rfl
          · rcases (nwin q).mp hq with hq | rfl
            · have sq := Bool.and_eq_true_iff.mp (show (Txt.startswith head q.head && decide (q.day ≤ day)) = true from ha)
              have ql := starts_len sq.1
              have qd := of_decide_eq_true sq.2
              unfold betterR
              split
              · exact decide_eq_false (by show ¬ day < q.day; omega)
              · exact decide_eq_false (by show ¬ head.length < q.head.length; omega)
            · exact better_irr _
        generalize sortR (bs ++ [⟨head, day, 1, 1⟩]) = ws at nwin wap wl wok same top
        refine goF_all (fun ρ w => ∃ s14 s15, ρ = [none, some (.d (.ref T)), some (.d d), some (.d (.tup (rs.map Rt.d))), some (.d (.lst (rs.map Rt.sp))), some (.d (.tup (os.map Rt.d))), some (.d (.tup (bs.map Rt.d))), some (.d kd), some (.d (.str code)), some (.d (.int day)), some (.d bb.d), some (.d (.tup ((bs.filter (appR code day)).map Rt.d))), some (.d (.str head)), some (.d (.tup (ws.map Rt.d))), s14, s15, s16] ∧ w = mkW T v) _ _ _ ?_ ⟨_, _, rfl, rfl⟩ ?_
        · rintro fd hfd _ _ ⟨s14, s15, rfl, rfl⟩ R3 hR3
          obtain ⟨far, later, rfl⟩ : ∃ (far : Str) (later : Int), fd = .tup [.str far, .int later] := by
            simp only [List.mem_cons, List.not_mem_nil, or_false] at hfd
            rcases hfd with rfl | rfl | rfl | rfl | rfl <;> exact ⟨_, _, rfl⟩
          walk_at "my go"
          refine ⟨rfl, ?_⟩
          have fin := hR3 _ _ ⟨some (.d (.str far)), some (.d (.int later)), rfl, rfl⟩
          have ask : ∀ {A B : UU.W → Prop}, appR far later ⟨head, day, 1, 1⟩ = false → B (mkW T v) → cLRow [.tup (ws.map Rt.d), .str far, .int later] (mkW T v) fun x w1 => cLRow [.tup (bs.map Rt.d), .str far, .int later] w1 fun y w2 => gNe x y fun z => onBl z fun k => if k = true then A w2 else B w2 := fun {A B} hf h =>
            ⟨ws, far, later, rfl, by omega, wok, fun o ho => ⟨bs, far, later, rfl, by omega, mok, fun o' ho' => ne (same hf ho ho') (show (if false = true then A (mkW T v) else B (mkW T v)) by rw [if_neg Bool.false_ne_true]; exact h)⟩⟩
          have h1 : Txt.startswith far head = false → appR far later ⟨head, day, 1, 1⟩ = false := fun c => by
            show (Txt.startswith far head && decide (day ≤ later)) = false
            rw [c]; rfl
          have h2 : later < day → appR far later ⟨head, day, 1, 1⟩ = false := fun c => by
            show (Txt.startswith far head && decide (day ≤ later)) = false
            rw [decide_eq_false (by omega), Bool.and_false]
          by_cases c0 : 0 ≤ later
          · refine itP (decide_eq_true c0) ?_
            cases c1 : Txt.startswith far head with
            | false =>
              refine itP rfl (ask (A := fun _ => Dt.bl false = Dt.bl true) (h1 c1) (itP (decide_eq_true c0) ?_))
              by_cases c2 : later < day
              · exact itP (decide_eq_true c2) (ask (A := fun _ => Dt.bl false = Dt.bl true) (h2 c2) fin)
              · exact itN (by rw [decide_eq_false c2]; exact Bool.false_ne_true) fin
            | true =>
              refine itN (by decide) (itP (decide_eq_true c0) ?_)
              by_cases c2 : later < day
              · exact itP (decide_eq_true c2) (ask (A := fun _ => Dt.bl false = Dt.bl true) (h2 c2) fin)
              · exact itN (by rw [decide_eq_false c2]; exact Bool.false_ne_true) fin
          · refine itN (by rw [decide_eq_false c0]; exact Bool.false_ne_true) (itN (by rw [decide_eq_false c0]; exact Bool.false_ne_true) fin)
        · rintro _ _ ⟨s14, s15, rfl, rfl⟩
          walk_at "my go"
          refine ⟨ws, head, day, rfl, by omega, wok, fun o ho => ?_⟩
          rw [top ho]
          have := hR2 [none, some (.d (.ref T)), some (.d d), some (.d (.tup (rs.map Rt.d))), some (.d (.lst (rs.map Rt.sp))), some (.d (.tup (os.map Rt.d))), some (.d (.tup (bs.map Rt.d))), some (.d kd), some (.d (.str code)), some (.d (.int day)), some (.d bb.d), some (.d (.tup ((bs.filter (appR code day)).map Rt.d))), some (.d (.str head)), some (.d (.tup (ws.map Rt.d))), s14, s15, s16] (mkW T v) ⟨_, _, _, _, _, _, _, _, _, _, _, rfl, hv, rfl⟩
          exact ne (o := some ⟨head, day, 1, 1⟩) (o' := some ⟨head, day, 1, 1⟩) rfl this
      · exact itP (decide_eq_true (by omega)) (hR2 _ _ ⟨_, _, _, _, _, _, _, _, _, _, _, rfl, hv, rfl⟩)
    rintro _ _ ⟨s7, s8, s9, s10, s11, s12, s13, s14, s15, s16, v, rfl, hv, rfl⟩
    exact hR _ _ ⟨_, _, _, _, _, _, _, _, _, _, _, _, _, _, _, v, rfl, hv, rfl⟩
  · rintro _ _ ⟨s2, s3, s4, s5, s6, s7, s8, s9, s10, s11, s12, s13, s14, s15, s16, v, rfl, hv, rfl⟩
    walk_at "my go"
    try rfl
end
def d_row_for : He.DefD := ⟨("row_for", none), "row_for", "row_for", defArgs s_row_for, defBody s_row_for, defScope s_row_for, [], []⟩
def d__law_draw : He.DefD := ⟨("_law_draw", none), "_law_draw", "_law_draw", defArgs s__law_draw, defBody s__law_draw, defScope s__law_draw, [], []⟩
def d__law_code : He.DefD := ⟨("_law_code", none), "_law_code", "_law_code", defArgs s__law_code, defBody s__law_code, defScope s__law_code, [], []⟩
def d__law_rates : He.DefD := ⟨("_law_rates", none), "_law_rates", "_law_rates", defArgs s__law_rates, defBody s__law_rates, defScope s__law_rates, [], []⟩
def d__law_better : He.DefD := ⟨("_law_better", none), "_law_better", "_law_better", defArgs s__law_better, defBody s__law_better, defScope s__law_better, [], []⟩
def d__law_row : He.DefD := ⟨("_law_row", none), "_law_row", "_law_row", defArgs s__law_row, defBody s__law_row, defScope s__law_row, [], []⟩
def d_law : He.DefD := ⟨("law", none), "law", "law", defArgs s_law, defBody s_law, defScope s_law, [], []⟩
def fnD : List He.DefD := [d_row_for, d__law_draw, d__law_code, d__law_rates, d__law_better, d__law_row, d_law]
def faD : List He.Fa := [.glo "row_for", .glo "_law_draw", .glo "_law_code", .glo "_law_rates", .glo "_law_better", .glo "_law_row", .glo "law", .free "len", .free "all", .free "any", .free "sum", .free "abs", .free "max", .free "min", .free "list", .free "tuple", .free "int", .free "bool", .free "str", .free "isinstance", .free "range", .free "zip", .free "enumerate", .free "sorted", .free "set", .free "dict"]
abbrev R : PySem.W.OpenRow := PySem.W.OpenLaw.row PySem.Challenge.rw_sealduty_k11_whole_rates_put_together
def lamD : List Str := ["_law_better"]
def exD (K : PySem.W.Frag) : Bool := apartT K lamD && (true)
abbrev hk : PySem.W.Hook := hookT 4 lamD faD fnD exD
def ob (s : PySem.W.SharedT) : AlT := obsT 4 lamD faD fnD exD (HandSHeadRun.getT s)
theorem ob_eq (s : PySem.W.SharedT) : ob s = hk.obs s.abs := obsT_eq (HandSHeadRun.getT_eq s)
def loose0 : List Str := ["row_for", "_law_draw", "_law_code", "_law_rates", "_law_better", "_law_row"]
abbrev loose : List Str := loose0
theorem run (w : World) : HandSHeadRun.RunEq R (PySem.W.view R.prog [8]) hk ob 3000 loose w := by
  intro os
  kernel_rfl
theorem facts {P : Program} {w : World} {K : PySem.W.Frag} {h : Heap} {mg : Str → Option Value} {f : Addr} (X : K.In h) (G : h.Ns mainGlobals mg) (hfa : mg ("law" : Str) = some (.ref f)) (c : He.SaysD faD fnD K) (cx : exD K = true) (tf : ∀ x ∈ lamD, ∃ c P, TabF K h x c P) :
    ∃ (fd : FuncData) (cs : List (Addr × Addr)), (∀ (s : Shared) (v : Value), BindsTo s fd ⟨[v], []⟩ [("script", v)]) ∧ (∀ p ∈ cs, h.get? p.2 = some { cls := .none, data := .fields #[] }) ∧ (∀ p ∈ cs, K.lookup p.2 = none) ∧ (∀ p ∈ cs, PySem.W.CodeHd h p.1 p.2) ∧
      ∀ base : Heap, K.In base → base.Ns mainGlobals mg → (∀ p ∈ cs, LamX.TabB base mg p.1 p.2) → FnOk P w K mg base CX0 100 f fd ["script"] (spLawT (cs.map (·.2)) K) := by
  obtain ⟨apart, cx⟩ := Bool.and_eq_true_iff.mp cx
  obtain ⟨fd_row_for, F_row_for⟩ := c.def_ 0 (d := d_row_for) rfl
  have g_row_for := He.glo_ok X G (c.fact 0 (f := .glo "row_for") rfl)
  have U_row_for : Fun K "row_for" "row_for" s_row_for _ fd_row_for := fun_of' F_row_for
  have b_row_for : Binds K fd_row_for ["rates", "code", "day"] [] := FunD.bindsN F_row_for fun _ _ _ _ _ _ us hl => match us, hl with | [_, _, _], _ => rfl
  obtain ⟨fd__law_draw, F__law_draw⟩ := c.def_ 1 (d := d__law_draw) rfl
  have g__law_draw := He.glo_ok X G (c.fact 1 (f := .glo "_law_draw") rfl)
  have U__law_draw : Fun K "_law_draw" "_law_draw" s__law_draw _ fd__law_draw := fun_of' F__law_draw
  have b__law_draw : Binds K fd__law_draw ["tape", "many"] [] := FunD.bindsN F__law_draw fun _ _ _ _ _ _ us hl => match us, hl with | [_, _], _ => rfl
  obtain ⟨fd__law_code, F__law_code⟩ := c.def_ 2 (d := d__law_code) rfl
  have g__law_code := He.glo_ok X G (c.fact 2 (f := .glo "_law_code") rfl)
  have U__law_code : Fun K "_law_code" "_law_code" s__law_code _ fd__law_code := fun_of' F__law_code
  have b__law_code : Binds K fd__law_code ["tape"] [] := FunD.bindsN F__law_code fun _ _ _ _ _ _ us hl => match us, hl with | [_], _ => rfl
  obtain ⟨fd__law_rates, F__law_rates⟩ := c.def_ 3 (d := d__law_rates) rfl
  have g__law_rates := He.glo_ok X G (c.fact 3 (f := .glo "_law_rates") rfl)
  have U__law_rates : Fun K "_law_rates" "_law_rates" s__law_rates _ fd__law_rates := fun_of' F__law_rates
  have b__law_rates : Binds K fd__law_rates ["tape", "most"] [] := FunD.bindsN F__law_rates fun _ _ _ _ _ _ us hl => match us, hl with | [_, _], _ => rfl
  obtain ⟨fd__law_better, F__law_better⟩ := c.def_ 4 (d := d__law_better) rfl
  have g__law_better := He.glo_ok X G (c.fact 4 (f := .glo "_law_better") rfl)
  have U__law_better : Fun K "_law_better" "_law_better" s__law_better _ fd__law_better := fun_of' F__law_better
  obtain ⟨c__law_better, P__law_better, t__law_better⟩ := tf "_law_better" (by decide +kernel)
  have hcd__law_better : fd__law_better.code = .ref c__law_better := t__law_better.code (He.eqO_ok (c.fact 4 (f := .glo "_law_better") rfl)) F__law_better
  have b__law_better : Binds K fd__law_better ["rates", "one", "other"] [] := FunD.bindsN F__law_better fun _ _ _ _ _ _ us hl => match us, hl with | [_, _, _], _ => rfl
  obtain ⟨fd__law_row, F__law_row⟩ := c.def_ 5 (d := d__law_row) rfl
  have g__law_row := He.glo_ok X G (c.fact 5 (f := .glo "_law_row") rfl)
  have U__law_row : Fun K "_law_row" "_law_row" s__law_row _ fd__law_row := fun_of' F__law_row
  have b__law_row : Binds K fd__law_row ["rates", "code", "day"] [] := FunD.bindsN F__law_row fun _ _ _ _ _ _ us hl => match us, hl with | [_, _, _], _ => rfl
  obtain ⟨fd_law, F_law⟩ := c.def_ 6 (d := d_law) rfl
  have g_law := He.glo_ok X G (c.fact 6 (f := .glo "law") rfl)
  have U_law : Fun K "law" "law" s_law _ fd_law := fun_of' F_law
  have b_law : Binds K fd_law ["script"] [] := FunD.bindsN F_law fun _ _ _ _ _ _ us hl => match us, hl with | [_], _ => rfl
  have bi : BI mg := ⟨He.free_ok X G (c.fact 7 (f := .free "len") rfl), He.free_ok X G (c.fact 8 (f := .free "all") rfl), He.free_ok X G (c.fact 9 (f := .free "any") rfl), He.free_ok X G (c.fact 10 (f := .free "sum") rfl), He.free_ok X G (c.fact 11 (f := .free "abs") rfl), He.free_ok X G (c.fact 12 (f := .free "max") rfl), He.free_ok X G (c.fact 13 (f := .free "min") rfl), He.free_ok X G (c.fact 14 (f := .free "list") rfl), He.free_ok X G (c.fact 15 (f := .free "tuple") rfl), He.free_ok X G (c.fact 16 (f := .free "int") rfl), He.free_ok X G (c.fact 17 (f := .free "bool") rfl), He.free_ok X G (c.fact 18 (f := .free "str") rfl), He.free_ok X G (c.fact 19 (f := .free "isinstance") rfl), He.free_ok X G (c.fact 20 (f := .free "range") rfl), He.free_ok X G (c.fact 21 (f := .free "zip") rfl), He.free_ok X G (c.fact 22 (f := .free "enumerate") rfl), He.free_ok X G (c.fact 23 (f := .free "sorted") rfl), He.free_ok X G (c.fact 24 (f := .free "set") rfl), He.free_ok X G (c.fact 25 (f := .free "dict") rfl)⟩
  have e := hfa.symm.trans g_law
  cases e
  have b := FunD.bindsA (ps := ["script"]) F_law fun _ _ _ _ _ _ us hl => match us, hl with | [_], _ => rfl
  have one : ∀ {Q : Addr × Addr → Prop}, Q (c__law_better, P__law_better) → ∀ p ∈ [(c__law_better, P__law_better)], Q p := fun {Q} h p hp => by
    cases List.mem_singleton.mp hp; exact h
  refine ⟨_, [(c__law_better, P__law_better)], fun s v => b s [v] rfl, one t__law_better.tab, one t__law_better.out, one t__law_better.hd, fun base _ _ TB => ?_⟩
  have m1 : (P__law_better, qBetter) ∈ [(P__law_better, qBetter)] := List.mem_cons_self ..
  have u1 : ∀ p ∈ [(P__law_better, qBetter)], p.1 = P__law_better → p.2 = qBetter := fun p hp e => by
    cases List.mem_singleton.mp hp; rfl
  have C_law_draw : Cal UU P w K mg base "_law_draw" 1 (cDraw unitW) := Cal.of (ok_law_draw bi U__law_draw) g__law_draw F__law_draw.kp b__law_draw
  have C_law_code : Cal UU P w K mg base "_law_code" 2 cLCode := Cal.of (ok_law_code bi U__law_code C_law_draw) g__law_code F__law_code.kp b__law_code
  have C_law_rates : Cal UU P w K mg base "_law_rates" 3 (cLRates K [(P__law_better, qBetter)]) := Cal.of (ok_law_rates bi U__law_rates C_law_draw C_law_code) g__law_rates F__law_rates.kp b__law_rates
  have C_row_for : Cal UU P w K mg base "row_for" 1 cRowFor := Cal.of (ok_row_for bi U_row_for) g_row_for F_row_for.kp b_row_for
  have C_law_row : Cal UU P w K mg base "_law_row" 2 cLRow := Cal.of (ok_law_row bi U__law_row C_row_for) g__law_row F__law_row.kp b__law_row
  have C_law_better : Cal UU P w K mg base "_law_better" 4 (cBetter [(P__law_better, qBetter)]) := Cal.of (ok_law_better bi (TB _ (List.mem_cons_self ..)) U__law_better hcd__law_better m1 u1) g__law_better F__law_better.kp b__law_better
  exact ok_the_law bi U_law C_law_draw C_law_code C_law_rates C_law_row C_law_better
end My
open PySem PySem.W PySem.Calls PyProof.Rows
theorem PySem.Challenge.cw_sealduty_k11_whole_rates_put_together_holds : PySem.Challenge.rw_sealduty_k11_whole_rates_put_together.Holds := by
  w_on; o_law
  refine HandSHeadRun.head_any (r := OpenLaw.row PySem.Challenge.rw_sealduty_k11_whole_rates_put_together) (q := view (OpenLaw.row PySem.Challenge.rw_sealduty_k11_whole_rates_put_together).prog [8]) (H := My.hk) (ob := My.ob) (M := 3000) (loose := My.loose) (d := HandSHeadRun.topDef (OpenLaw.row PySem.Challenge.rw_sealduty_k11_whole_rates_put_together).prog 8) (kwd := []) My.ob_eq
    (by kernel_rfl) (fun s => by kernel_rfl) My.run (by kernel_rfl) (by kernel_rfl) (by kernel_rfl) (by rfl) (by first | assumption | decide +kernel) (by decide +kernel) ⟨rfl, rfl, rfl, rfl, rfl, by decide +kernel⟩ ?hw ?hc
  case hw => w_witness2
  case hc =>
    refine LamX.walk_ofTsE (l := PySem.Challenge.rw_sealduty_k11_whole_rates_put_together) (n := 63) (k := 100) (x := "script") (CX := fun _ => L2.CX0) rfl (by decide) (by kernel_rfl) ⟨rfl, by decide, by decide⟩ ?F (fun _ _ _ _ _ z => z)
    intro w mg fa h Y G hmg0
    obtain ⟨K, KX, c, cx, tf⟩ := Y
    have hmg : mg ("law" : PySem.Str) = some (.ref fa) := by
      have e : (HandSHeadRun.topDef (OpenLaw.row PySem.Challenge.rw_sealduty_k11_whole_rates_put_together).prog 8).name = ("law" : PySem.Str) := by kernel_rfl
      rw [← e]
      exact hmg0
    obtain ⟨fd, cs, hb, hT, nT, hC, hF⟩ := My.facts (P := (PySem.Challenge.rw_sealduty_k11_whole_rates_put_together).prog) (w := w) KX G hmg c cx tf
    exact ⟨K, KX, fd, cs, DL.spLawT (cs.map (·.2)) K, hT, nT, hC, hb, fun H a ns hl _ hTs hS => ⟨a, ns, rfl, hS, hl, fun P hP => by
      obtain ⟨p, hp, rfl⟩ := List.mem_map.mp hP
      exact hTs p hp, fun _ => rfl⟩, hF⟩
