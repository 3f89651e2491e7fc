import PyProof.Rows.All
import Wide.All
import OpenK.AllK
import Wide.FinOn
import HandS.ForMost
import HandS.ForExc
import HandS.Walk
import HandS.Evl
import HandS.Wide
import HandS.WideMore
import HandS.Zip
import HandS.IsInst
import HandS.Flow
import HandS.Style
import HandS.TupAny
import HandS.TupLe
import HandS.RevRange
import HandS.Rev
import HandS.Defaults
import HandS.MakeKw
import HandS.MakeKwOnly
import HandS.More
import HandS.Ends
import HandS.Words
import PySem.Challenge.RW_nearseats_k30_determinants_and_ranks
set_option Elab.async false
set_option linter.all false
set_option maxRecDepth 100000
set_option maxHeartbeats 4000000
namespace NS
open PySem L2

/-! ### data -/
inductive D where
  | non | bl (b : Bool) | int (i : Int) | str (s : Str)
  | lst (xs : List D) | ro (xs : List D) | tup (xs : List D) | dct (kvs : List (Key × D)) | obj (c : Nat) (fs : List (Str × D))

structure Gx where
  K : PySem.W.Frag
  cad : Nat → Addr

mutual
def Rep (G : Gx) (P : Hp) : D → V → Prop
  | .non, v => v = .non
  | .bl b, v => v = .bl b
  | .int i, v => v = .int i
  | .str s, v => v = .str s
  | .lst xs, v => ∃ a vs, v = .ref a ∧ P a = some (.lst vs) ∧ Reps G P xs vs
  | .ro xs, v => ∃ a vs, v = .ref a ∧ SqL G.K P a vs ∧ Reps G P xs vs
  | .tup xs, v => ∃ a vs, v = .ref a ∧ SqT G.K P a vs ∧ Reps G P xs vs
  | .dct kvs, v => ∃ a vs, v = .ref a ∧ P a = some (.dK vs) ∧ RepK G P kvs vs
  | .obj c fs, v => ∃ a dx vs, v = .ref a ∧ P a = some (.ins (G.cad c) dx vs) ∧ RepF G P fs vs
def Reps (G : Gx) (P : Hp) : List D → List V → Prop
  | [], vs => vs = []
  | d :: ds, vs => ∃ v r, vs = v :: r ∧ Rep G P d v ∧ Reps G P ds r
def RepK (G : Gx) (P : Hp) : List (Key × D) → List (Key × V) → Prop
  | [], vs => vs = []
  | (k, d) :: ds, vs => ∃ v r, vs = (k, v) :: r ∧ Rep G P d v ∧ RepK G P ds r
def RepF (G : Gx) (P : Hp) : List (Str × D) → List (Str × V) → Prop
  | [], vs => vs = []
  | (k, d) :: ds, vs => ∃ v r, vs = (k, v) :: r ∧ Rep G P d v ∧ RepF G P ds r
end

/-- H' holds what H holds -/
abbrev Ex := Evl.Ex
theorem Ex.refl (H : Hp) : Ex H H := fun _ _ h => h
theorem Ex.trans {H H1 H2 : Hp} (a : Ex H H1) (b : Ex H1 H2) : Ex H H2 := fun x o h => b x o (a x o h)

mutual
theorem Rep.mono {G : Gx} {P P' : Hp} (e : Ex P P') : ∀ {d : D} {v : V}, Rep G P d v → Rep G P' d v
  | .non, _, h => h
  | .bl _, _, h => h
  | .int _, _, h => h
  | .str _, _, h => h
  | .lst _, _, ⟨a, vs, e1, h, r⟩ => ⟨a, vs, e1, e _ _ h, Reps.mono e r⟩
  | .ro _, _, ⟨a, vs, e1, h, r⟩ => ⟨a, vs, e1, Evl.ex_l e h, Reps.mono e r⟩
  | .tup _, _, ⟨a, vs, e1, h, r⟩ => ⟨a, vs, e1, Evl.ex_t e h, Reps.mono e r⟩
  | .dct _, _, ⟨a, vs, e1, h, r⟩ => ⟨a, vs, e1, e _ _ h, RepK.mono e r⟩
  | .obj _ _, _, ⟨a, dx, vs, e1, h, r⟩ => ⟨a, dx, vs, e1, e _ _ h, RepF.mono e r⟩
theorem Reps.mono {G : Gx} {P P' : Hp} (e : Ex P P') : ∀ {ds : List D} {vs : List V}, Reps G P ds vs → Reps G P' ds vs
  | [], _, h => h
  | _ :: _, _, ⟨v, r, e1, h, hr⟩ => ⟨v, r, e1, Rep.mono e h, Reps.mono e hr⟩
theorem RepK.mono {G : Gx} {P P' : Hp} (e : Ex P P') : ∀ {ds : List (Key × D)} {vs : List (Key × V)}, RepK G P ds vs → RepK G P' ds vs
  | [], _, h => h
  | (_, _) :: _, _, ⟨v, r, e1, h, hr⟩ => ⟨v, r, e1, Rep.mono e h, RepK.mono e hr⟩
theorem RepF.mono {G : Gx} {P P' : Hp} (e : Ex P P') : ∀ {ds : List (Str × D)} {vs : List (Str × V)}, RepF G P ds vs → RepF G P' ds vs
  | [], _, h => h
  | (_, _) :: _, _, ⟨v, r, e1, h, hr⟩ => ⟨v, r, e1, Rep.mono e h, RepF.mono e hr⟩
end
section
variable {G : Gx} {P P' : Hp}
theorem Reps.len : ∀ {ds : List D} {vs : List V}, Reps G P ds vs → vs.length = ds.length
  | [], _, h => by rw [show _ = _ from h]; rfl
  | _ :: _, _, ⟨v, r, e1, h, hr⟩ => by rw [e1]; simp [Reps.len hr]
theorem Reps.get : ∀ {ds : List D} {vs : List V} {i : Nat} {d : D}, Reps G P ds vs → ds[i]? = some d → ∃ v, vs[i]? = some v ∧ Rep G P d v
  | [], _, _, _, _, h => by simp at h
  | _ :: _, _, 0, _, ⟨v, r, e1, h, hr⟩, e => by
    rw [e1]; simp at e; subst e; exact ⟨v, rfl, h⟩
  | _ :: _, _, i + 1, _, ⟨v, r, e1, h, hr⟩, e => by
    rw [e1]; simpa using Reps.get hr (by simpa using e)
theorem Reps.getV : ∀ {ds : List D} {vs : List V} {i : Nat} {v : V}, Reps G P ds vs → vs[i]? = some v → ∃ d, ds[i]? = some d ∧ Rep G P d v
  | [], vs, i, v, h, e => by rw [show vs = [] from h] at e; simp at e
  | d :: _, _, 0, w, ⟨v, r, e1, h, hr⟩, e => by
    rw [e1] at e; simp at e; subst e; exact ⟨d, rfl, h⟩
  | _ :: _, _, i + 1, _, ⟨v, r, e1, h, hr⟩, e => by
    rw [e1] at e; simpa using Reps.getV hr (by simpa using e)
theorem Reps.app : ∀ {ds es : List D} {vs ws : List V}, Reps G P ds vs → Reps G P es ws → Reps G P (ds ++ es) (vs ++ ws)
  | [], _, _, _, h, h' => by rw [show _ = _ from h]; exact h'
  | _ :: _, _, _, _, ⟨v, r, e1, h, hr⟩, h' => ⟨v, r ++ _, by rw [e1]; rfl, h, Reps.app hr h'⟩
theorem Reps.one {d : D} {v : V} (h : Rep G P d v) : Reps G P [d] [v] := ⟨v, [], rfl, h, rfl⟩
theorem Reps.nil : Reps G P [] [] := rfl
theorem Reps.set : ∀ {ds : List D} {vs : List V} {d : D} {v : V} (i : Nat), Reps G P ds vs → Rep G P d v → Reps G P (ds.set i d) (vs.set i v)
  | [], _, _, _, _, h, _ => by rw [show _ = _ from h]; exact rfl
  | _ :: _, _, d, w, 0, ⟨v, r, e1, h, hr⟩, h' => by rw [e1]; exact ⟨w, r, rfl, h', hr⟩
  | _ :: _, _, d, w, i + 1, ⟨v, r, e1, h, hr⟩, h' => by rw [e1]; exact ⟨v, r.set i w, rfl, h, Reps.set i hr h'⟩
theorem Reps.take : ∀ {ds : List D} {vs : List V} (n : Nat), Reps G P ds vs → Reps G P (ds.take n) (vs.take n)
  | [], _, _, h => by rw [show _ = _ from h]; simp; exact rfl
  | _ :: _, _, 0, h => by simp; exact rfl
  | _ :: _, _, n + 1, ⟨v, r, e1, h, hr⟩ => by rw [e1]; exact ⟨v, r.take n, by simp, h, Reps.take n hr⟩
theorem Reps.drop : ∀ {ds : List D} {vs : List V} (n : Nat), Reps G P ds vs → Reps G P (ds.drop n) (vs.drop n)
  | [], _, _, h => by rw [show _ = _ from h]; simp; exact rfl
  | _ :: _, _, 0, h => h
  | _ :: _, _, n + 1, ⟨v, r, e1, h, hr⟩ => by rw [e1]; simpa using Reps.drop n hr
theorem Reps.rev : ∀ {ds : List D} {vs : List V}, Reps G P ds vs → Reps G P ds.reverse vs.reverse
  | [], _, h => by rw [show _ = _ from h]; exact rfl
  | _ :: _, _, ⟨v, r, e1, h, hr⟩ => by
    rw [e1, List.reverse_cons, List.reverse_cons]
    exact Reps.app (Reps.rev hr) (Reps.one h)
end

/-! ### owned things -/
inductive T where
  | d (x : D) | l (xs : List D) | k (kvs : List (Key × D)) | o (c : Nat) (fs : List (Str × D))
def T.toD : T → D
  | .d x => x
  | .l xs => .lst xs
  | .k kvs => .dct kvs
  | .o c fs => .obj c fs
abbrev Cells := List (Addr × HO)
def Own (G : Gx) (P : Hp) : T → V → Cells → Prop
  | .d x, v, M => M = [] ∧ Rep G P x v
  | .l xs, v, M => ∃ a vs, v = .ref a ∧ M = [(a, .lst vs)] ∧ Reps G P xs vs
  | .k kvs, v, M => ∃ a vs, v = .ref a ∧ M = [(a, .dK vs)] ∧ RepK G P kvs vs
  | .o c fs, v, M => ∃ a dx vs, v = .ref a ∧ M = [(a, .ins (G.cad c) dx vs)] ∧ RepF G P fs vs
abbrev Env := List (Option T)
def EnvOk (G : Gx) (P : Hp) : Env → St → Cells → Prop
  | [], σ, M => σ = [] ∧ M = []
  | none :: r, σ, M => ∃ v σ', σ = v :: σ' ∧ EnvOk G P r σ' M
  | some t :: r, σ, M => ∃ v σ' h M', σ = some v :: σ' ∧ M = h ++ M' ∧ Own G P t v h ∧ EnvOk G P r σ' M'
structure Hold (P : Hp) (M : Cells) (H : Hp) : Prop where
  ex : Ex P H
  at_ : ∀ x ∈ M, H x.1 = some x.2
  nd : (M.map (·.1)).Nodup
  free : ∀ x ∈ M, P x.1 = none
section
variable {G : Gx} {P P' H H' : Hp} {M M' F : Cells} {t : T} {v : V} {h : Cells} {env : Env} {σ : St}
theorem Own.mono (e : Ex P P') (x : Own G P t v h) : Own G P' t v h := by
  cases t with
  | d d => exact ⟨x.1, x.2.mono e⟩
  | l xs => obtain ⟨a, vs, e1, e2, r⟩ := x; exact ⟨a, vs, e1, e2, r.mono e⟩
  | k xs => obtain ⟨a, vs, e1, e2, r⟩ := x; exact ⟨a, vs, e1, e2, r.mono e⟩
  | o c xs => obtain ⟨a, dx, vs, e1, e2, r⟩ := x; exact ⟨a, dx, vs, e1, e2, r.mono e⟩
theorem EnvOk.mono (e : Ex P P') : ∀ {env : Env} {σ : St} {M : Cells}, EnvOk G P env σ M → EnvOk G P' env σ M
  | [], _, _, h => h
  | none :: _, _, _, ⟨v, σ', e1, h⟩ => ⟨v, σ', e1, EnvOk.mono e h⟩
  | some _ :: _, _, _, ⟨v, σ', h, M', e1, e2, x, y⟩ => ⟨v, σ', h, M', e1, e2, x.mono e, EnvOk.mono e y⟩
theorem EnvOk.len : ∀ {env : Env} {σ : St} {M : Cells}, EnvOk G P env σ M → σ.length = env.length
  | [], _, _, h => by rw [h.1]; rfl
  | none :: _, _, _, ⟨v, σ', e1, h⟩ => by rw [e1]; simp [EnvOk.len h]
  | some _ :: _, _, _, ⟨v, σ', h, M', e1, e2, x, y⟩ => by rw [e1]; simp [EnvOk.len y]
/-- one slot out of the environment -/
theorem EnvOk.take : ∀ {env : Env} {σ : St} {M : Cells} {i : Nat} {t : T}, EnvOk G P env σ M → env[i]? = some (some t) → ∃ v h M', σ[i]? = some (some v) ∧ M.Perm (h ++ M') ∧ Own G P t v h ∧ EnvOk G P (env.set i none) σ M'
  | [], _, _, _, _, _, e => by simp at e
  | none :: r, _, _, 0, _, _, e => by simp at e
  | none :: r, _, _, i + 1, t, ⟨v, σ', e1, y⟩, e => by
    obtain ⟨w, h, M', q1, q2, q3, q4⟩ := EnvOk.take (i := i) (t := t) y (by simpa using e)
    exact ⟨w, h, M', by rw [e1]; simpa using q1, q2, q3, ⟨v, σ', e1, q4⟩⟩
  | some u :: r, _, _, 0, t, ⟨v, σ', h, M', e1, e2, x, y⟩, e => by
    simp at e; subst e
    exact ⟨v, h, M', by rw [e1]; rfl, by rw [e2], x, ⟨some v, σ', e1, y⟩⟩
  | some u :: r, _, _, i + 1, t, ⟨v, σ', h, M', e1, e2, x, y⟩, e => by
    obtain ⟨w, h2, M2, q1, q2, q3, q4⟩ := EnvOk.take (i := i) (t := t) y (by simpa using e)
    refine ⟨w, h2, h ++ M2, by rw [e1]; simpa using q1, ?_, q3, ⟨v, σ', h, M2, e1, rfl, x, q4⟩⟩
    rw [e2]
    exact (List.Perm.append_left h q2).trans (by rw [← List.append_assoc, ← List.append_assoc]; exact List.Perm.append_right _ List.perm_append_comm)
/-- one slot into it -/
theorem EnvOk.put : ∀ {env : Env} {σ : St} {M : Cells} {i : Nat} {t : T} {v : V} {h : Cells}, EnvOk G P env σ M → i < env.length → Own G P t v h → ∃ M' M2, (h ++ M).Perm (M' ++ M2) ∧ EnvOk G P (env.set i (some t)) (σ.set i (some v)) M'
  | [], _, _, _, _, _, _, _, hi, _ => by simp at hi
  | none :: r, _, M, 0, t, v, h, ⟨w, σ', e1, y⟩, _, x => ⟨h ++ M, [], by simp, by rw [e1]; exact ⟨v, σ', h, M, rfl, rfl, x, y⟩⟩
  | none :: r, _, M, i + 1, t, v, h, ⟨w, σ', e1, y⟩, hi, x => by
    obtain ⟨M', M2, q1, q2⟩ := EnvOk.put (i := i) y (by simpa using hi) x
    exact ⟨M', M2, q1, by rw [e1]; exact ⟨w, σ'.set i (some v), rfl, q2⟩⟩
  | some u :: r, _, M, 0, t, v, h, ⟨w, σ', g, M', e1, e2, z, y⟩, _, x => by
    refine ⟨h ++ M', g, ?_, by rw [e1]; exact ⟨v, σ', h, M', rfl, rfl, x, y⟩⟩
    rw [e2, List.append_assoc]
    exact List.Perm.append_left h List.perm_append_comm
  | some u :: r, _, M, i + 1, t, v, h, ⟨w, σ', g, M', e1, e2, z, y⟩, hi, x => by
    obtain ⟨M3, M2, q1, q2⟩ := EnvOk.put (i := i) y (by simpa using hi) x
    refine ⟨g ++ M3, M2, ?_, by rw [e1]; exact ⟨w, σ'.set i (some v), g, M3, rfl, rfl, z, q2⟩⟩
    rw [e2, ← List.append_assoc]
    refine (List.Perm.append_right _ List.perm_append_comm).trans ?_
    rw [List.append_assoc, List.append_assoc]
    exact List.Perm.append_left g q1
/-- .. back where its value still stands -/
theorem EnvOk.back : ∀ {env : Env} {σ : St} {M : Cells} {i : Nat} {t : T} {v : V} {h : Cells}, EnvOk G P env σ M → σ[i]? = some (some v) → Own G P t v h → ∃ M' M2, (h ++ M).Perm (M' ++ M2) ∧ EnvOk G P (env.set i (some t)) σ M' := fun {env σ M i t v h} y e x => by
  have hi : i < σ.length := (List.getElem?_eq_some_iff.mp e).1
  obtain ⟨M', M2, q1, q2⟩ := EnvOk.put (i := i) y (by rw [← y.len]; exact hi) x
  have es : σ.set i (some v) = σ := by
    apply List.ext_getElem?
    intro j
    by_cases hj : i = j
    · subst hj; rw [List.getElem?_set_self hi, e]
    · rw [List.getElem?_set_ne hj]
  rw [es] at q2
  exact ⟨M', M2, q1, q2⟩
theorem EnvOk.hide : ∀ {env : Env} {σ : St} {M : Cells} (i : Nat), EnvOk G P env σ M → ∃ M' M2, M.Perm (M' ++ M2) ∧ EnvOk G P (env.set i none) σ M' := fun {env σ M} i y => by
  cases e : env[i]? with
  | none => exact ⟨M, [], by simp, by rw [List.set_eq_of_length_le (List.getElem?_eq_none_iff.mp e)]; exact y⟩
  | some o =>
    cases o with
    | none =>
      refine ⟨M, [], by simp, ?_⟩
      have es : env.set i none = env := by
        apply List.ext_getElem?
        intro j
        by_cases hj : i = j
        · subst hj; rw [List.getElem?_set_self (List.getElem?_eq_some_iff.mp e).1, e]
        · rw [List.getElem?_set_ne hj]
      rw [es]; exact y
    | some t =>
      obtain ⟨v, h, M', q1, q2, q3, q4⟩ := y.take e
      exact ⟨M', h, q2.trans List.perm_append_comm, q4⟩
theorem EnvOk.setNone : ∀ {env : Env} {σ : St} {M : Cells} (i : Nat) (o : Option V), EnvOk G P env σ M → ∃ M' M2, M.Perm (M' ++ M2) ∧ EnvOk G P (env.set i none) (σ.set i o) M'
  | [], _, M, i, o, y => ⟨[], [], by rw [y.2]; simp, by rw [y.1]; exact ⟨rfl, rfl⟩⟩
  | none :: r, _, M, 0, o, ⟨w, σ', e1, y⟩ => ⟨M, [], by simp, by rw [e1]; exact ⟨o, σ', rfl, y⟩⟩
  | none :: r, _, M, i + 1, o, ⟨w, σ', e1, y⟩ => by
    obtain ⟨M', M2, q1, q2⟩ := EnvOk.setNone i o y
    exact ⟨M', M2, q1, by rw [e1]; exact ⟨w, σ'.set i o, rfl, q2⟩⟩
  | some u :: r, _, M, 0, o, ⟨w, σ', g, M', e1, e2, z, y⟩ => ⟨M', g, by rw [e2]; exact List.perm_append_comm, by rw [e1]; exact ⟨o, σ', rfl, y⟩⟩
  | some u :: r, _, M, i + 1, o, ⟨w, σ', g, M', e1, e2, z, y⟩ => by
    obtain ⟨M3, M2, q1, q2⟩ := EnvOk.setNone i o y
    refine ⟨g ++ M3, M2, ?_, by rw [e1]; exact ⟨w, σ'.set i o, g, M3, rfl, rfl, z, q2⟩⟩
    rw [e2, List.append_assoc]
    exact List.Perm.append_left g q1

theorem Hold.perm (x : Hold P M H) (p : M.Perm M') : Hold P M' H :=
  ⟨x.ex, fun y hy => x.at_ y (p.mem_iff.mpr hy), (p.map (·.1)).nodup_iff.mp x.nd, fun y hy => x.free y (p.mem_iff.mpr hy)⟩
theorem Hold.dropL (x : Hold P (M ++ M') H) : Hold P M' H :=
  ⟨x.ex, fun y hy => x.at_ y (List.mem_append_right _ hy), by have := x.nd; rw [List.map_append] at this; exact (List.nodup_append.mp this).2.1, fun y hy => x.free y (List.mem_append_right _ hy)⟩
theorem Hold.dropR (x : Hold P (M ++ M') H) : Hold P M H := (x.perm List.perm_append_comm).dropL
/-- a new cell -/
theorem Hold.new {p : Addr} {o : HO} (x : Hold P M H) (hp : H p = none) : Hold P ((p, o) :: M) (upd H p o) := by
  have ne : ∀ y ∈ M, y.1 ≠ p := fun y hy e => by have := x.at_ y hy; rw [e, hp] at this; cases this
  refine ⟨fun a u e => ?_, fun y hy => ?_, ?_, fun y hy => ?_⟩
  · rw [upd_ne (ne_of_none (x.ex a u e) hp)]; exact x.ex a u e
  · rcases List.mem_cons.mp hy with rfl | hy
    · exact upd_same
    · rw [upd_ne (ne y hy)]; exact x.at_ y hy
  · rw [List.map_cons, List.nodup_cons]
    refine ⟨fun hm => ?_, x.nd⟩
    obtain ⟨y, hy, e⟩ := List.mem_map.mp hm
    exact ne y hy e
  · rcases List.mem_cons.mp hy with rfl | hy
    · exact Evl.fresh_back x.ex hp
    · exact x.free y hy
/-- new data -/
theorem Hold.newP {p : Addr} {o : HO} (x : Hold P M H) (hp : H p = none) : Hold (upd P p o) M (upd H p o) := by
  have ne : ∀ y ∈ M, y.1 ≠ p := fun y hy e => by have := x.at_ y hy; rw [e, hp] at this; cases this
  refine ⟨fun a u e => ?_, fun y hy => ?_, x.nd, fun y hy => ?_⟩
  · by_cases ha : a = p
    · subst ha; rw [upd_same] at e ⊢; exact e
    · rw [upd_ne ha] at e ⊢; exact x.ex a u e
  · rw [upd_ne (ne y hy)]; exact x.at_ y hy
  · rw [upd_ne (ne y hy)]; exact x.free y hy
/-- a cell written -/
theorem Hold.put {p : Addr} {o o' : HO} (x : Hold P ((p, o) :: M) H) : Hold P ((p, o') :: M) (upd H p o') := by
  have pn : P p = none := x.free (p, o) List.mem_cons_self
  have ne : ∀ y ∈ M, y.1 ≠ p := fun y hy e => by
    have := x.nd; rw [List.map_cons, List.nodup_cons] at this
    exact this.1 (List.mem_map.mpr ⟨y, hy, e⟩)
  refine ⟨fun a u e => ?_, fun y hy => ?_, x.nd, fun y hy => ?_⟩
  · rw [upd_ne (ne_of_none e pn)]; exact x.ex a u e
  · rcases List.mem_cons.mp hy with rfl | hy
    · exact upd_same
    · rw [upd_ne (ne y hy)]; exact x.at_ y (List.mem_cons_of_mem _ hy)
  · rcases List.mem_cons.mp hy with rfl | hy
    · exact pn
    · exact x.free y (List.mem_cons_of_mem _ hy)
/-- a cell is no longer written -/
theorem Hold.ice {p : Addr} {o : HO} (x : Hold P ((p, o) :: M) H) : Hold (upd P p o) M H := by
  have ne : ∀ y ∈ M, y.1 ≠ p := fun y hy e => by
    have := x.nd; rw [List.map_cons, List.nodup_cons] at this
    exact this.1 (List.mem_map.mpr ⟨y, hy, e⟩)
  refine ⟨fun a u e => ?_, fun y hy => x.at_ y (List.mem_cons_of_mem _ hy), ?_, fun y hy => ?_⟩
  · by_cases ha : a = p
    · subst ha; rw [upd_same] at e; rw [← e]; exact x.at_ (a, o) List.mem_cons_self
    · rw [upd_ne ha] at e; exact x.ex a u e
  · have := x.nd; rw [List.map_cons, List.nodup_cons] at this; exact this.2
  · rw [upd_ne (ne y hy)]; exact x.free y (List.mem_cons_of_mem _ hy)
theorem ex_upd {p : Addr} {o : HO} (hp : P p = none) : Ex P (upd P p o) := Evl.Ex.new hp
/-- freeze an owned thing into data -/
theorem Hold.freeze (y : Own G P t v h) (x : Hold P (h ++ M) H) : ∃ P', Ex P P' ∧ Hold P' M H ∧ Rep G P' t.toD v := by
  cases t with
  | d d => obtain ⟨rfl, r⟩ := y; exact ⟨P, Ex.refl P, x, r⟩
  | l xs =>
    obtain ⟨a, vs, rfl, rfl, r⟩ := y
    have e : Ex P (upd P a (.lst vs)) := ex_upd (x.free _ (List.mem_append_left _ List.mem_cons_self))
    exact ⟨_, e, Hold.ice x, a, vs, rfl, upd_same, r.mono e⟩
  | k xs =>
    obtain ⟨a, vs, rfl, rfl, r⟩ := y
    have e : Ex P (upd P a (.dK vs)) := ex_upd (x.free _ (List.mem_append_left _ List.mem_cons_self))
    exact ⟨_, e, Hold.ice x, a, vs, rfl, upd_same, r.mono e⟩
  | o c xs =>
    obtain ⟨a, dx, vs, rfl, rfl, r⟩ := y
    have e : Ex P (upd P a (.ins (G.cad c) dx vs)) := ex_upd (x.free _ (List.mem_append_left _ List.mem_cons_self))
    exact ⟨_, e, Hold.ice x, a, dx, vs, rfl, upd_same, r.mono e⟩
end

/-! ### results -/
structure Exn where
  c : Nat
  fs : List (Str × D)
inductive Rs (α : Type) where
  | ok (a : α) (e : Env) | exc (x : Exn) (e : Env) | bad
def Rs.bind {α β : Type} (r : Rs α) (f : α → Env → Rs β) : Rs β := match r with
  | .ok a e => f a e
  | .exc x e => .exc x e
  | .bad => .bad
@[simp] theorem Rs.bind_ok {α β : Type} (a : α) (e : Env) (f : α → Env → Rs β) : (Rs.ok a e).bind f = f a e := rfl
@[simp] theorem Rs.bind_exc {α β : Type} (x : Exn) (e : Env) (f : α → Env → Rs β) : (Rs.exc x e : Rs α).bind f = .exc x e := rfl
@[simp] theorem Rs.bind_bad {α β : Type} (f : α → Env → Rs β) : (Rs.bad : Rs α).bind f = .bad := rfl
abbrev ME := Env → Rs T
abbrev MD := Env → Rs D
inductive Op where
  | tmp (t : T) | pk (i : Nat)
abbrev MO := Env → Rs Op
inductive Fl where
  | nx | rt (t : T) | bk | ct
abbrev MS := Env → Rs Fl
def Op.at (env : Env) : Op → Option T
  | .tmp t => some t
  | .pk i => (env[i]?).join
def OpOk (G : Gx) (P : Hp) (σ : St) : Op → V → Cells → Prop
  | .tmp t, v, h => Own G P t v h
  | .pk i, v, h => h = [] ∧ σ[i]? = some (some v)
theorem OpOk.mono {G : Gx} {P P' : Hp} {σ : St} {o : Op} {v : V} {h : Cells} (e : Ex P P') (x : OpOk G P σ o v h) : OpOk G P' σ o v h := by
  cases o with
  | tmp t => exact Own.mono (t := t) e x
  | pk i => exact x
/-- a thing that may be read -/
def View (G : Gx) (P H : Hp) (t : T) (v : V) : Prop := ∃ h, Own G P t v h ∧ ∀ x ∈ h, H x.1 = some x.2
theorem OpOk.view {G : Gx} {P H : Hp} {σ : St} {env : Env} {M h : Cells} {o : Op} {v : V} {t : T} (x : OpOk G P σ o v h) (y : EnvOk G P env σ M) (hh : ∀ z ∈ h, H z.1 = some z.2) (hM : ∀ z ∈ M, H z.1 = some z.2) (e : o.at env = some t) : View G P H t v := by
  cases o with
  | tmp u => simp only [Op.at, Option.some.injEq] at e; subst e; exact ⟨h, x, hh⟩
  | pk i =>
    obtain ⟨rfl, hs⟩ := x
    have e' : env[i]? = some (some t) := by
      simp only [Op.at] at e
      cases q : env[i]? with
      | none => rw [q] at e; cases e
      | some u => rw [q] at e; exact congrArg some e
    obtain ⟨w, g, M', q1, q2, q3, q4⟩ := y.take e'
    rw [hs] at q1; cases q1
    exact ⟨g, q3, fun z hz => hM z (q2.mem_iff.mpr (List.mem_append_left _ hz))⟩

/-- an exception: its class, its fields -/
def ExRep (G : Gx) (P : Hp) (x : Exn) (cls : Value) (d : Option Addr) : Prop := cls = .ref (G.cad x.c) ∧ ((x.fs = [] ∧ d = none) ∨ ∃ dx vs, d = some dx ∧ P dx = some (.xd vs) ∧ RepF G P x.fs vs)
def XP (G : Gx) (W : WX) (P : Hp) (F : Cells) (σs : St → Prop) (x : Exn) (env : Env) : Prop :=
  ∀ P' M' cls d σ' H', Ex P P' → σs σ' → EnvOk G P' env σ' M' → Hold P' (M' ++ F) H' → ExRep G P' x cls d → W cls d σ' H'
/-! ### readings and mirrors -/
structure SE (G : Gx) (W : WX) (te : TE) (m : ME) : Prop where
  run : ∀ P M F env σ H Q, EnvOk G P env σ M → Hold P (M ++ F) H → (match m env with
    | .ok t env' => ∀ P' M' v h H', Ex P P' → EnvOk G P' env' σ M' → Own G P' t v h → Hold P' (h ++ (M' ++ F)) H' → Q v H'
    | .exc x env' => XP G W P F (· = σ) x env'
    | .bad => False) → te σ H Q
structure SD (G : Gx) (W : WX) (te : TE) (m : MD) : Prop where
  run : ∀ P M F env σ H Q, EnvOk G P env σ M → Hold P (M ++ F) H → (match m env with
    | .ok d env' => ∀ P' M' v H', Ex P P' → EnvOk G P' env' σ M' → Rep G P' d v → Hold P' (M' ++ F) H' → Q v H'
    | .exc x env' => XP G W P F (· = σ) x env'
    | .bad => False) → te σ H Q
structure SO (G : Gx) (W : WX) (te : TE) (m : MO) : Prop where
  run : ∀ P M F env σ H Q, EnvOk G P env σ M → Hold P (M ++ F) H → (match m env with
    | .ok o env' => ∀ P' M' v h H', Ex P P' → EnvOk G P' env' σ M' → OpOk G P' σ o v h → Hold P' (h ++ (M' ++ F)) H' → Q v H'
    | .exc x env' => XP G W P F (· = σ) x env'
    | .bad => False) → te σ H Q
def XE (c : Nat → Addr) (X : Cx) (W : WX) (e : Expr) (m : ME) : Prop := ∃ te, PE X e te ∧ SE ⟨X.K, c⟩ W te m
def XD (c : Nat → Addr) (X : Cx) (W : WX) (e : Expr) (m : MD) : Prop := ∃ te, PE X e te ∧ SD ⟨X.K, c⟩ W te m
def XO (c : Nat → Addr) (X : Cx) (W : WX) (e : Expr) (m : MO) : Prop := ∃ te, PE X e te ∧ SO ⟨X.K, c⟩ W te m
theorem XP.mono {G : Gx} {W : WX} {P P' : Hp} {F : Cells} {S : St → Prop} {x : Exn} {env : Env} (h : XP G W P F S x env) (e : Ex P P') : XP G W P' F S x env :=
  fun P2 M' cls d σ' H' e2 => h P2 M' cls d σ' H' (e.trans e2)
/-- more cells around -/
theorem XP.wide {G : Gx} {W : WX} {P : Hp} {F h : Cells} {S : St → Prop} {x : Exn} {env : Env} (q : XP G W P F S x env) : XP G W P (h ++ F) S x env :=
  fun P2 M' cls d σ' H' e2 s y z r => q P2 M' cls d σ' H' e2 s y ((z.perm (by
    rw [← List.append_assoc]
    exact (List.Perm.append_right _ List.perm_append_comm).trans (by rw [List.append_assoc]))).dropL) r
end NS
namespace NS
open PySem L2

theorem perm_by {α : Type} {l l' : List α} (h : ∀ [DecidableEq α] (a : α), l.count a = l'.count a) : l.Perm l' := by
  classical exact List.perm_iff_count.mpr fun a => h a

section
variable {G : Gx} {W : WX} {P P' H H' : Hp} {M M' F : Cells} {σ : St} {env : Env}
theorem View.d {x : D} {v : V} (h : Rep G P x v) : View G P H (.d x) v := ⟨[], ⟨rfl, h⟩, fun _ z => nomatch z⟩
/-- views through more -/
theorem hold_at {x : Addr × HO} (y : Hold P M H) (h : x ∈ M) : H x.1 = some x.2 := y.at_ x h
end

/-! ### the kinds of a thing -/
/-- a list -/
def T.lst? : T → Option (List D)
  | .l xs => some xs
  | .d (.lst xs) => some xs
  | .d (.ro xs) => some xs
  | _ => none
/-- .. that stands in the heap by itself -/
def T.lstX? : T → Option (List D)
  | .l xs => some xs
  | .d (.lst xs) => some xs
  | _ => none
def T.tup? : T → Option (List D)
  | .d (.tup xs) => some xs
  | _ => none
def T.seq? (t : T) : Option (List D) := match t with
  | .l xs => some xs
  | .d (.lst xs) => some xs
  | .d (.ro xs) => some xs
  | .d (.tup xs) => some xs
  | _ => none
def T.int? : T → Option Int
  | .d (.int i) => some i
  | _ => none
def T.bl? : T → Option Bool
  | .d (.bl b) => some b
  | _ => none
def T.str? : T → Option Str
  | .d (.str b) => some b
  | _ => none
@[simp] theorem lst?_l (xs) : (T.l xs).lst? = some xs := rfl
@[simp] theorem lst?_d (xs) : (T.d (.lst xs)).lst? = some xs := rfl
@[simp] theorem lst?_ro (xs) : (T.d (.ro xs)).lst? = some xs := rfl
@[simp] theorem lstX?_l (xs) : (T.l xs).lstX? = some xs := rfl
@[simp] theorem lstX?_d (xs) : (T.d (.lst xs)).lstX? = some xs := rfl
@[simp] theorem tup?_d (xs) : (T.d (.tup xs)).tup? = some xs := rfl
@[simp] theorem seq?_l (xs) : (T.l xs).seq? = some xs := rfl
@[simp] theorem seq?_d (xs) : (T.d (.lst xs)).seq? = some xs := rfl
@[simp] theorem seq?_ro (xs) : (T.d (.ro xs)).seq? = some xs := rfl
@[simp] theorem seq?_t (xs) : (T.d (.tup xs)).seq? = some xs := rfl
@[simp] theorem int?_d (i) : (T.d (.int i)).int? = some i := rfl
@[simp] theorem bl?_d (i) : (T.d (.bl i)).bl? = some i := rfl
@[simp] theorem str?_d (i) : (T.d (.str i)).str? = some i := rfl
section
variable {G : Gx} {P H : Hp} {t : T} {v : V}
theorem View.lst {xs : List D} (x : View G P H t v) (e : Ex P H) (h : t.lst? = some xs) : ∃ a vs, v = .ref a ∧ SqL G.K H a vs ∧ Reps G P xs vs := by
  obtain ⟨c, o, q⟩ := x
  cases t with
  | l ys =>
    simp at h; subst h
    obtain ⟨a, vs, e1, e2, r⟩ := o
    subst e2
    exact ⟨a, vs, e1, Evl.sq_of (q _ List.mem_cons_self), r⟩
  | d y =>
    cases y <;> simp [T.lst?] at h
    · subst h
      obtain ⟨_, a, vs, e1, s, r⟩ := o
      exact ⟨a, vs, e1, Evl.sq_of (e _ _ s), r⟩
    · subst h
      obtain ⟨_, a, vs, e1, s, r⟩ := o
      exact ⟨a, vs, e1, Evl.ex_l e s, r⟩
  | k _ => simp [T.lst?] at h
  | o _ _ => simp [T.lst?] at h
theorem View.lstX {xs : List D} (x : View G P H t v) (e : Ex P H) (h : t.lstX? = some xs) : ∃ a vs, v = .ref a ∧ H a = some (.lst vs) ∧ Reps G P xs vs := by
  obtain ⟨c, o, q⟩ := x
  cases t with
  | l ys =>
    simp at h; subst h
    obtain ⟨a, vs, e1, e2, r⟩ := o
    subst e2
    exact ⟨a, vs, e1, q _ List.mem_cons_self, r⟩
  | d y =>
    cases y <;> simp [T.lstX?] at h
    subst h
    obtain ⟨_, a, vs, e1, s, r⟩ := o
    exact ⟨a, vs, e1, e _ _ s, r⟩
  | k _ => simp [T.lstX?] at h
  | o _ _ => simp [T.lstX?] at h
theorem View.tup {xs : List D} (x : View G P H t v) (e : Ex P H) (h : t.tup? = some xs) : ∃ a vs, v = .ref a ∧ SqT G.K H a vs ∧ Reps G P xs vs := by
  obtain ⟨c, o, q⟩ := x
  cases t with
  | d y =>
    cases y <;> simp [T.tup?] at h
    subst h
    obtain ⟨_, a, vs, e1, s, r⟩ := o
    exact ⟨a, vs, e1, Evl.ex_t e s, r⟩
  | _ => simp [T.tup?] at h
theorem View.seq {xs : List D} (x : View G P H t v) (e : Ex P H) (h : t.seq? = some xs) : ∃ a vs, v = .ref a ∧ (SqL G.K H a vs ∨ SqT G.K H a vs) ∧ Reps G P xs vs := by
  cases t with
  | l ys =>
    obtain ⟨a, vs, h1, h2, h3⟩ := x.lst (xs := xs) e (by simpa using h)
    exact ⟨a, vs, h1, .inl h2, h3⟩
  | d y =>
    cases y with
    | lst ys =>
      obtain ⟨a, vs, h1, h2, h3⟩ := x.lst (xs := xs) e (by simpa using h)
      exact ⟨a, vs, h1, .inl h2, h3⟩
    | ro ys =>
      obtain ⟨a, vs, h1, h2, h3⟩ := x.lst (xs := xs) e (by simpa using h)
      exact ⟨a, vs, h1, .inl h2, h3⟩
    | tup ys =>
      obtain ⟨a, vs, h1, h2, h3⟩ := x.tup (xs := xs) e (by simpa using h)
      exact ⟨a, vs, h1, .inr h2, h3⟩
    | _ => simp [T.seq?] at h
  | _ => simp [T.seq?] at h
theorem View.int {i : Int} (x : View G P H t v) (h : t.int? = some i) : v = .int i := by
  obtain ⟨c, o, q⟩ := x
  cases t with
  | d y =>
    cases y <;> simp [T.int?] at h
    subst h
    exact o.2
  | _ => simp [T.int?] at h
theorem View.bl {i : Bool} (x : View G P H t v) (h : t.bl? = some i) : v = .bl i := by
  obtain ⟨c, o, q⟩ := x
  cases t with
  | d y =>
    cases y <;> simp [T.bl?] at h
    subst h
    exact o.2
  | _ => simp [T.bl?] at h
theorem View.str {i : Str} (x : View G P H t v) (h : t.str? = some i) : v = .str i := by
  obtain ⟨c, o, q⟩ := x
  cases t with
  | d y =>
    cases y <;> simp [T.str?] at h
    subst h
    exact o.2
  | _ => simp [T.str?] at h
end

/-! ### conversions -/
def Rs.map {α β : Type} (f : α → β) (r : Rs α) : Rs β := match r with
  | .ok a e => .ok (f a) e
  | .exc x e => .exc x e
  | .bad => .bad
@[simp] theorem Rs.map_ok {α β : Type} (f : α → β) (a : α) (e : Env) : (Rs.ok a e).map f = .ok (f a) e := rfl
@[simp] theorem Rs.map_exc {α β : Type} (f : α → β) (x : Exn) (e : Env) : (Rs.exc x e : Rs α).map f = .exc x e := rfl
@[simp] theorem Rs.map_bad {α β : Type} (f : α → β) : (Rs.bad : Rs α).map f = .bad := rfl
def mDE (m : MD) : ME := fun env => (m env).map T.d
def mED (m : ME) : MD := fun env => (m env).map T.toD
def mEO (m : ME) : MO := fun env => (m env).map Op.tmp
def mDO (m : MD) : MO := fun env => (m env).map fun d => Op.tmp (.d d)
section
variable {G : Gx} {W : WX} {te : TE}
theorem SD.e {m : MD} (h : SD G W te m) : SE G W te (mDE m) := ⟨fun P M F env σ H Q y x q => h.run P M F env σ H Q y x (by
  unfold mDE at q
  cases e : m env with
  | ok d e' => rw [e] at q; exact fun P' M' v H' a b c d => q P' M' v [] H' a b ⟨rfl, c⟩ d
  | exc x e' => rw [e] at q; exact q
  | bad => rw [e] at q; exact q)⟩
theorem SE.d {m : ME} (h : SE G W te m) : SD G W te (mED m) := ⟨fun P M F env σ H Q y x q => h.run P M F env σ H Q y x (by
  unfold mED at q
  cases e : m env with
  | ok d e' =>
    rw [e] at q
    intro P' M' v h H' a b c d
    obtain ⟨P2, e2, h2, r⟩ := Hold.freeze c d
    exact q P2 M' v H' (a.trans e2) (b.mono e2) r h2
  | exc x e' => rw [e] at q; exact q
  | bad => rw [e] at q; exact q)⟩
theorem SE.o {m : ME} (h : SE G W te m) : SO G W te (mEO m) := ⟨fun P M F env σ H Q y x q => h.run P M F env σ H Q y x (by
  unfold mEO at q
  cases e : m env with
  | ok d e' => rw [e] at q; exact q
  | exc x e' => rw [e] at q; exact q
  | bad => rw [e] at q; exact q)⟩
theorem SD.o {m : MD} (h : SD G W te m) : SO G W te (mDO m) := ⟨fun P M F env σ H Q y x q => h.run P M F env σ H Q y x (by
  unfold mDO at q
  cases e : m env with
  | ok d e' => rw [e] at q; exact fun P' M' v H' a b c d => q P' M' v [] H' a b ⟨rfl, c⟩ d
  | exc x e' => rw [e] at q; exact q
  | bad => rw [e] at q; exact q)⟩
end
section
variable {c : Nat → Addr} {X : Cx} {W : WX} {ex : Expr}
theorem XD.e {m : MD} (h : XD c X W ex m) : XE c X W ex (mDE m) := let ⟨t, a, b⟩ := h; ⟨t, a, b.e⟩
theorem XE.d {m : ME} (h : XE c X W ex m) : XD c X W ex (mED m) := let ⟨t, a, b⟩ := h; ⟨t, a, b.d⟩
theorem XE.o {m : ME} (h : XE c X W ex m) : XO c X W ex (mEO m) := let ⟨t, a, b⟩ := h; ⟨t, a, b.o⟩
theorem XD.o {m : MD} (h : XD c X W ex m) : XO c X W ex (mDO m) := let ⟨t, a, b⟩ := h; ⟨t, a, b.o⟩
end

/-! ### names, constants -/
def mUse (i : Nat) : MD := fun env => match (env[i]?).join with
  | none => .bad
  | some (.d x) => .ok x env
  | some t => .ok t.toD (env.set i (some (.d t.toD)))
def mMove (i : Nat) : ME := fun env => match (env[i]?).join with
  | none => .bad
  | some (.d x) => .ok (.d x) env
  | some t => .ok t (env.set i none)
def mPk (i : Nat) : MO := fun env => match (env[i]?).join with
  | none => .bad
  | some _ => .ok (.pk i) env
def mC (d : D) : MD := fun env => .ok d env
theorem join_some {env : Env} {i : Nat} {t : T} (h : (env[i]?).join = some t) : env[i]? = some (some t) := by
  cases q : env[i]? with
  | none => rw [q] at h; cases h
  | some u => rw [q] at h; exact congrArg some h
section
variable {G : Gx} {W : WX} {i : Nat}
theorem so_pk : SO G W (tVar i) (mPk i) := ⟨fun P M F env σ H Q y x q => by
  unfold mPk at q
  cases e : (env[i]?).join with
  | none => rw [e] at q; exact q.elim
  | some t =>
    rw [e] at q
    obtain ⟨v, h, M', q1, _, _, _⟩ := y.take (join_some e)
    exact ⟨v, q1, q P M v [] H (Ex.refl P) y ⟨rfl, q1⟩ x⟩⟩
theorem sd_use : SD G W (tVar i) (mUse i) := ⟨fun P M F env σ H Q y x q => by
  unfold mUse at q
  cases e : (env[i]?).join with
  | none => rw [e] at q; exact q.elim
  | some t =>
    rw [e] at q
    obtain ⟨v, h, M', q1, q2, q3, q4⟩ := y.take (join_some e)
    refine ⟨v, q1, ?_⟩
    have hx : Hold P (h ++ (M' ++ F)) H := x.perm (by rw [← List.append_assoc]; exact List.Perm.append_right F q2)
    have fin : ∀ {d : D}, t.toD = d → (∀ P' M' v H', Ex P P' → EnvOk G P' (env.set i (some (.d d))) σ M' → Rep G P' d v → Hold P' (M' ++ F) H' → Q v H') → Q v H := fun {d} ed k => by
      obtain ⟨P2, e2, h2, r⟩ := Hold.freeze q3 hx
      rw [ed] at r
      obtain ⟨M2, M3, p, z⟩ := EnvOk.back (t := .d d) (h := []) (q4.mono e2) q1 ⟨rfl, r⟩
      rw [List.set_set] at z
      refine k P2 M2 v H e2 z r (Hold.dropR (M' := M3) (h2.perm ?_))
      refine (List.Perm.append_right F (show M'.Perm (M2 ++ M3) from p)).trans ?_
      rw [List.append_assoc, List.append_assoc]
      exact List.Perm.append_left M2 List.perm_append_comm
    cases t with
    | d d =>
      obtain ⟨rfl, r⟩ := q3
      exact q P M v H (Ex.refl P) y r x
    | l xs => exact fin rfl q
    | k xs => exact fin rfl q
    | o c xs => exact fin rfl q⟩
theorem se_move : SE G W (tVar i) (mMove i) := ⟨fun P M F env σ H Q y x q => by
  unfold mMove at q
  cases e : (env[i]?).join with
  | none => rw [e] at q; exact q.elim
  | some t =>
    rw [e] at q
    obtain ⟨v, h, M', q1, q2, q3, q4⟩ := y.take (join_some e)
    refine ⟨v, q1, ?_⟩
    have hx : Hold P (h ++ (M' ++ F)) H := x.perm (by rw [← List.append_assoc]; exact List.Perm.append_right F q2)
    cases t with
    | d d =>
      obtain ⟨rfl, r⟩ := q3
      exact q P M v [] H (Ex.refl P) y ⟨rfl, r⟩ x
    | l xs => exact q P M' v h H (Ex.refl P) q4 q3 hx
    | k xs => exact q P M' v h H (Ex.refl P) q4 q3 hx
    | o c xs => exact q P M' v h H (Ex.refl P) q4 q3 hx⟩
theorem sd_c {d : D} {v : V} (h : ∀ P, Rep G P d v) : SD G W (tC v) (mC d) := ⟨fun P M F env σ H Q y x q => q P M v H (Ex.refl P) y (h P) x⟩
end
section
variable {c : Nat → Addr} {X : Cx} {W : WX} {pos : Pos}
theorem xo_pk (i : Nat) {x : Str} (hN : X.N[i]? = some x := by rfl) (hv : Vis X.env.scope x := by first | exact Or.inl rfl | exact Or.inr (Or.inl rfl) | exact Or.inr (Or.inr rfl)) (hd : (x == ("__debug__" : Str)) = false := by decide)
    (hcd : (x == ("__classdict__" : Str)) = false := by decide) : XO c X W (.Name x pos) (mPk i) := ⟨_, pe_var hN hv hd hcd, so_pk⟩
theorem xd_use (i : Nat) {x : Str} (hN : X.N[i]? = some x := by rfl) (hv : Vis X.env.scope x := by first | exact Or.inl rfl | exact Or.inr (Or.inl rfl) | exact Or.inr (Or.inr rfl)) (hd : (x == ("__debug__" : Str)) = false := by decide)
    (hcd : (x == ("__classdict__" : Str)) = false := by decide) : XD c X W (.Name x pos) (mUse i) := ⟨_, pe_var hN hv hd hcd, sd_use⟩
theorem xe_move (i : Nat) {x : Str} (hN : X.N[i]? = some x := by rfl) (hv : Vis X.env.scope x := by first | exact Or.inl rfl | exact Or.inr (Or.inl rfl) | exact Or.inr (Or.inr rfl)) (hd : (x == ("__debug__" : Str)) = false := by decide)
    (hcd : (x == ("__classdict__" : Str)) = false := by decide) : XE c X W (.Name x pos) (mMove i) := ⟨_, pe_var hN hv hd hcd, se_move⟩
theorem xd_int {i : Int} {j} : XD c X W (.Constant (.int i) j pos) (mC (.int i)) := ⟨_, pe_int, sd_c fun _ => rfl⟩
theorem xd_bl {i : Bool} {j} : XD c X W (.Constant (.bool i) j pos) (mC (.bl i)) := ⟨_, pe_bl, sd_c fun _ => rfl⟩
theorem xd_non {j} : XD c X W (.Constant .none j pos) (mC .non) := ⟨_, pe_non, sd_c fun _ => rfl⟩
theorem xd_str {i : Str} {j} : XD c X W (.Constant (.str i) j pos) (mC (.str i)) := ⟨_, pe_str, sd_c fun _ => rfl⟩
end

/-! ### two operands -/
def Rs.of {α : Type} (o : Option α) (e : Env) : Rs α := match o with
  | some a => .ok a e
  | none => .bad
@[simp] theorem Rs.of_some {α : Type} (a : α) (e : Env) : Rs.of (some a) e = .ok a e := rfl
@[simp] theorem Rs.of_none {α : Type} (e : Env) : (Rs.of none e : Rs α) = .bad := rfl
def mOp2 (f : T → T → Option T) (ma mb : MO) : ME := fun env => (ma env).bind fun o1 e1 => (mb e1).bind fun o2 e2 => Rs.of ((o1.at e2).bind fun s => (o2.at e2).bind fun t => f s t) e2
def mOp1 (f : T → Option T) (ma : MO) : ME := fun env => (ma env).bind fun o1 e1 => Rs.of ((o1.at e1).bind fun s => f s) e1
def Op2S (G : Gx) (r : R2) (f : T → T → Option T) : Prop := ∀ (P : Hp) (F : Cells) (v1 v2 : V) (t1 t2 t : T) (H : Hp) (Q : VK), View G P H t1 v1 → View G P H t2 v2 → Hold P F H → f t1 t2 = some t →
  (∀ P' v h H', Ex P P' → Own G P' t v h → Hold P' (h ++ F) H' → Q v H') → r v1 v2 H Q
def Op1S (G : Gx) (r : V → Hp → VK → Prop) (f : T → Option T) : Prop := ∀ (P : Hp) (F : Cells) (v1 : V) (t1 t : T) (H : Hp) (Q : VK), View G P H t1 v1 → Hold P F H → f t1 = some t →
  (∀ P' v h H', Ex P P' → Own G P' t v h → Hold P' (h ++ F) H' → Q v H') → r v1 H Q
theorem obind {α β : Type} {o : Option α} {f : α → Option β} {b : β} (h : o.bind f = some b) : ∃ a, o = some a ∧ f a = some b := by
  cases o with
  | none => cases h
  | some a => exact ⟨a, rfl, h⟩
theorem Rs.of_cases {α : Type} {o : Option α} {e : Env} {p : Rs α → Prop} (h : p (Rs.of o e)) (hb : ¬ p .bad) : ∃ a, o = some a ∧ p (.ok a e) := by
  cases o with
  | none => exact (hb h).elim
  | some a => exact ⟨a, rfl, h⟩
section
variable {G : Gx} {W : WX} {ta tb : TE}
theorem SO.op2 {r : R2} {f : T → T → Option T} {ma mb : MO} (hr : Op2S G r f) (ha : SO G W ta ma) (hb : SO G W tb mb) : SE G W (tOp r ta tb) (mOp2 f ma mb) := by
  refine ⟨fun P M F env σ H Q y x q => ?_⟩
  unfold mOp2 at q
  refine ha.run P M F env σ H _ y x ?_
  cases e1 : ma env with
  | bad => rw [e1] at q; exact q.elim
  | exc z e' => rw [e1] at q; exact q
  | ok o1 env1 =>
    rw [e1, Rs.bind_ok] at q
    intro P1 M1 v1 h1 H1 x1 y1 z1 w1
    refine hb.run P1 M1 (h1 ++ F) env1 σ H1 _ y1 (w1.perm (perm_by fun a => by simp only [List.count_append]; omega)) ?_
    cases e2 : mb env1 with
    | bad => rw [e2] at q; exact q.elim
    | exc z e' => rw [e2] at q; exact (XP.mono q x1).wide
    | ok o2 env2 =>
      rw [e2, Rs.bind_ok] at q
      intro P2 M2 v2 h2 H2 x2 y2 z2 w2
      cases e3 : ((o1.at env2).bind fun s => (o2.at env2).bind fun t => f s t) with
      | none => rw [e3] at q; exact q.elim
      | some t =>
        rw [e3] at q
        obtain ⟨s1, a1, e4⟩ := obind e3
        obtain ⟨s2, a2, e5⟩ := obind e4
        have hM : ∀ z ∈ M2, H2 z.1 = some z.2 := fun z hz => w2.at_ z (List.mem_append_right _ (List.mem_append_left _ hz))
        have vw1 : View G P2 H2 s1 v1 := (z1.mono x2).view y2 (fun z hz => w2.at_ z (List.mem_append_right _ (List.mem_append_right _ (List.mem_append_left _ hz)))) hM a1
        have vw2 : View G P2 H2 s2 v2 := z2.view y2 (fun z hz => w2.at_ z (List.mem_append_left _ hz)) hM a2
        have w3 : Hold P2 (M2 ++ F) H2 := Hold.dropL (M := h2 ++ h1) (w2.perm (perm_by fun a => by simp only [List.count_append]; omega))
        exact hr P2 (M2 ++ F) v1 v2 s1 s2 t H2 Q vw1 vw2 w3 e5 fun P3 v h H3 x3 z3 w4 => q P3 M2 v h H3 ((x1.trans x2).trans x3) (y2.mono x3) z3 w4
theorem SO.op1 {r : V → Hp → VK → Prop} {f : T → Option T} {ma : MO} (hr : Op1S G r f) (ha : SO G W ta ma) : SE G W (tUn r ta) (mOp1 f ma) := by
  refine ⟨fun P M F env σ H Q y x q => ?_⟩
  unfold mOp1 at q
  refine ha.run P M F env σ H _ y x ?_
  cases e1 : ma env with
  | bad => rw [e1] at q; exact q.elim
  | exc z e' => rw [e1] at q; exact q
  | ok o1 env1 =>
    rw [e1, Rs.bind_ok] at q
    intro P1 M1 v1 h1 H1 x1 y1 z1 w1
    cases e3 : ((o1.at env1).bind fun s => f s) with
    | none => rw [e3] at q; exact q.elim
    | some t =>
      rw [e3] at q
      obtain ⟨s1, a1, e4⟩ := obind e3
      have vw1 : View G P1 H1 s1 v1 := z1.view y1 (fun z hz => w1.at_ z (List.mem_append_left _ hz)) (fun z hz => w1.at_ z (List.mem_append_right _ (List.mem_append_left _ hz))) a1
      exact hr P1 (M1 ++ F) v1 s1 t H1 Q vw1 w1.dropL e4 fun P3 v h H3 x3 z3 w4 => q P3 M1 v h H3 (x1.trans x3) (y1.mono x3) z3 w4
/-- an answer that is plain data -/
theorem ans_d {P : Hp} {F : Cells} {H : Hp} {d : D} {v : V} {Q : VK} (w : Hold P F H) (r : Rep G P d v) (k : ∀ P' v h H', Ex P P' → Own G P' (.d d) v h → Hold P' (h ++ F) H' → Q v H') : Q v H := k P v [] H (Ex.refl P) ⟨rfl, r⟩ w
/-- a new list -/
theorem ans_l {P : Hp} {F : Cells} {H : Hp} {xs : List D} {vs : List V} {Q : VK} (w : Hold P F H) (r : Reps G P xs vs) (k : ∀ P' v h H', Ex P P' → Own G P' (.l xs) v h → Hold P' (h ++ F) H' → Q v H') :
    ∀ p, H p = none → Q (.ref p) (upd H p (.lst vs)) := fun p hp => k P (.ref p) [(p, .lst vs)] _ (Ex.refl P) ⟨p, vs, rfl, rfl, r⟩ (w.new hp)
/-- a new tuple -/
theorem ans_t {P : Hp} {F : Cells} {H : Hp} {xs : List D} {vs : List V} {Q : VK} (w : Hold P F H) (r : Reps G P xs vs) (k : ∀ P' v h H', Ex P P' → Own G P' (.d (.tup xs)) v h → Hold P' (h ++ F) H' → Q v H') :
    ∀ p, H p = none → Q (.ref p) (upd H p (.tup vs)) := fun p hp => by
  have e : Ex P (upd P p (.tup vs)) := ex_upd (Evl.fresh_back w.ex hp)
  exact k _ (.ref p) [] _ e ⟨rfl, p, vs, rfl, Evl.st_of upd_same, r.mono e⟩ (w.newP hp)
end
end NS
namespace NS
open PySem L2

/-! ### operators -/
/-- // by any number but 0 that is not too great -/
def CDivA (_ j : Int) : Prop := j ≠ 0 ∧ j.natAbs.log2 < 9000
instance (i j : Int) : Decidable (CDivA i j) := inferInstanceAs (Decidable (_ ∧ _))
instance (i j : Int) : Decidable (CMulW i j) := inferInstanceAs (Decidable (_ < _))
instance (i j : Int) : Decidable (CPow i j) := inferInstanceAs (Decidable (_ ∧ _))
def orE (f g : T → T → Option T) (s t : T) : Option T := match f s t with
  | some u => some u
  | none => g s t
def fAddS (s t : T) : Option T := (s.str?).bind fun a => (t.str?).bind fun b => if a.length + b.length ≤ sizeLine then some (.d (.str (a ++ b))) else none
def fAddL (s t : T) : Option T := (s.lstX?).bind fun xs => (t.lstX?).bind fun ys => if xs.length + ys.length ≤ sizeLine then some (.l (xs ++ ys)) else none
def fAddT (s t : T) : Option T := (s.tup?).bind fun xs => (t.tup?).bind fun ys => if xs.length + ys.length ≤ sizeLine then some (.d (.tup (xs ++ ys))) else none
def fAddI (s t : T) : Option T := match s, t with
  | .d (.int i), .d (.int j) => some (.d (.int (i + j)))
  | _, _ => none
def bAdd : T → T → Option T := orE fAddI (orE fAddS (orE fAddT fAddL))
def fMulI (s t : T) : Option T := match s, t with
  | .d (.int i), .d (.int j) => if CMulW i j then some (.d (.int (i * j))) else none
  | _, _ => none
def fMulL (s t : T) : Option T := (s.lstX?).bind fun xs => (t.int?).bind fun k => if -(2 ^ 63) ≤ k ∧ k < 2 ^ 63 ∧ xs.length * k.toNat ≤ sizeLine then some (.l (List.replicate k.toNat xs).flatten) else none
def bMul : T → T → Option T := orE fMulI fMulL
def bSub (s t : T) : Option T := match s, t with
  | .d (.int i), .d (.int j) => some (.d (.int (i - j)))
  | _, _ => none
def bFdiv (s t : T) : Option T := match s, t with
  | .d (.int i), .d (.int j) => if CDivA i j then some (.d (.int (i.fdiv j))) else none
  | _, _ => none
def bMod (s t : T) : Option T := match s, t with
  | .d (.int i), .d (.int j) => if j ≠ 0 then some (.d (.int (i.fmod j))) else none
  | _, _ => none
def bPow (s t : T) : Option T := match s, t with
  | .d (.int i), .d (.int j) => if CPow i j then some (.d (.int (i ^ j.toNat))) else none
  | _, _ => none
def uNeg (s : T) : Option T := match s with
  | .d (.int i) => some (.d (.int (-i)))
  | _ => none
@[simp] theorem bAdd_ii (i j : Int) : bAdd (.d (.int i)) (.d (.int j)) = some (.d (.int (i + j))) := rfl
theorem match_none {α : Type} (o : Option α) : (match o with | some u => some u | none => none) = o := by cases o <;> rfl
@[simp] theorem bAdd_ss (a b : Str) : bAdd (.d (.str a)) (.d (.str b)) = if a.length + b.length ≤ sizeLine then some (.d (.str (a ++ b))) else none := by simp only [bAdd, orE, fAddI, fAddS, fAddT, fAddL, T.str?, T.tup?, T.lstX?, Option.bind_some, Option.bind_none]; by_cases h : a.length + b.length ≤ sizeLine <;> simp [h]
@[simp] theorem bAdd_tt (a b : List D) : bAdd (.d (.tup a)) (.d (.tup b)) = if a.length + b.length ≤ sizeLine then some (.d (.tup (a ++ b))) else none := by simp only [bAdd, orE, fAddI, fAddS, fAddT, fAddL, T.str?, T.tup?, T.lstX?, Option.bind_some, Option.bind_none]; by_cases h : a.length + b.length ≤ sizeLine <;> simp [h]
@[simp] theorem bAdd_ll (a b : List D) : bAdd (.l a) (.l b) = if a.length + b.length ≤ sizeLine then some (.l (a ++ b)) else none := rfl
@[simp] theorem bAdd_dl (a b : List D) : bAdd (.d (.lst a)) (.l b) = if a.length + b.length ≤ sizeLine then some (.l (a ++ b)) else none := rfl
@[simp] theorem bAdd_ld (a b : List D) : bAdd (.l a) (.d (.lst b)) = if a.length + b.length ≤ sizeLine then some (.l (a ++ b)) else none := rfl
@[simp] theorem bAdd_dd (a b : List D) : bAdd (.d (.lst a)) (.d (.lst b)) = if a.length + b.length ≤ sizeLine then some (.l (a ++ b)) else none := rfl
@[simp] theorem bSub_ii (i j : Int) : bSub (.d (.int i)) (.d (.int j)) = some (.d (.int (i - j))) := rfl
@[simp] theorem bMul_ii (i j : Int) : bMul (.d (.int i)) (.d (.int j)) = if CMulW i j then some (.d (.int (i * j))) else none := by simp only [bMul, orE, fMulI, fMulL, T.lstX?, Option.bind_none]; by_cases h : CMulW i j <;> simp [h]
@[simp] theorem bMul_li (xs : List D) (k : Int) : bMul (.l xs) (.d (.int k)) = if -(2 ^ 63) ≤ k ∧ k < 2 ^ 63 ∧ xs.length * k.toNat ≤ sizeLine then some (.l (List.replicate k.toNat xs).flatten) else none := rfl
@[simp] theorem bMul_di (xs : List D) (k : Int) : bMul (.d (.lst xs)) (.d (.int k)) = if -(2 ^ 63) ≤ k ∧ k < 2 ^ 63 ∧ xs.length * k.toNat ≤ sizeLine then some (.l (List.replicate k.toNat xs).flatten) else none := rfl
@[simp] theorem bFdiv_ii (i j : Int) : bFdiv (.d (.int i)) (.d (.int j)) = if CDivA i j then some (.d (.int (i.fdiv j))) else none := rfl
@[simp] theorem bMod_ii (i j : Int) : bMod (.d (.int i)) (.d (.int j)) = if j ≠ 0 then some (.d (.int (i.fmod j))) else none := rfl
@[simp] theorem bPow_ii (i j : Int) : bPow (.d (.int i)) (.d (.int j)) = if CPow i j then some (.d (.int (i ^ j.toNat))) else none := rfl
@[simp] theorem uNeg_i (i : Int) : uNeg (.d (.int i)) = some (.d (.int (-i))) := rfl

theorem ife {c : Prop} [Decidable c] {α : Type} {a b : α} (h : (if c then some a else none) = some b) : c ∧ a = b := by
  split at h
  · exact ⟨by assumption, Option.some.inj h⟩
  · cases h
section
variable {G : Gx}
theorem Op2S.or {r r' : R2} {f g : T → T → Option T} (h : Op2S G r f) (h' : Op2S G r' g) : Op2S G (fun x y H Q => r x y H Q ∨ r' x y H Q) (orE f g) :=
  fun P F v1 v2 t1 t2 t H Q a b c d q => by
    unfold orE at d
    cases e : f t1 t2 with
    | some u => rw [e] at d; exact .inl (h P F v1 v2 t1 t2 t H Q a b c (e.trans d) q)
    | none => rw [e] at d; exact .inr (h' P F v1 v2 t1 t2 t H Q a b c d q)
/-- two ints -/
theorem int2 {C : Int → Int → Prop} [∀ i j, Decidable (C i j)] {g : Int → Int → V} {g' : Int → Int → D} (hg : ∀ P i j, Rep G P (g' i j) (g i j)) :
    Op2S G (rI C g) (fun s t => match s, t with | .d (.int i), .d (.int j) => if C i j then some (.d (g' i j)) else none | _, _ => none) := by
  intro P F v1 v2 t1 t2 t H Q a b c d q
  have h1 : ∃ i, t1 = .d (.int i) := by
    cases t1 with
    | d y => cases y <;> first | exact ⟨_, rfl⟩ | (simp at d)
    | _ => simp at d
  have h2 : ∃ i, t2 = .d (.int i) := by
    obtain ⟨i, rfl⟩ := h1
    cases t2 with
    | d y => cases y <;> first | exact ⟨_, rfl⟩ | (simp at d)
    | _ => simp at d
  obtain ⟨i, rfl⟩ := h1
  obtain ⟨j, rfl⟩ := h2
  obtain ⟨hc, rfl⟩ := ife d
  have e1 := a.int (i := i) rfl
  have e2 := b.int (i := j) rfl
  exact ⟨i, j, e1, e2, hc, ans_d c (hg P i j) q⟩
theorem int20 {g : Int → Int → V} {g' : Int → Int → D} (hg : ∀ P i j, Rep G P (g' i j) (g i j)) :
    Op2S G (rI0 g) (fun s t => match s, t with | .d (.int i), .d (.int j) => some (.d (g' i j)) | _, _ => none) := by
  intro P F v1 v2 t1 t2 t H Q a b c d q
  have h1 : ∃ i, t1 = .d (.int i) := by
    cases t1 with
    | d y => cases y <;> first | exact ⟨_, rfl⟩ | (simp at d)
    | _ => simp at d
  have h2 : ∃ i, t2 = .d (.int i) := by
    obtain ⟨i, rfl⟩ := h1
    cases t2 with
    | d y => cases y <;> first | exact ⟨_, rfl⟩ | (simp at d)
    | _ => simp at d
  obtain ⟨i, rfl⟩ := h1
  obtain ⟨j, rfl⟩ := h2
  simp only [Option.some.injEq] at d
  subst d
  have e1 := a.int (i := i) rfl
  have e2 := b.int (i := j) rfl
  exact ⟨i, j, e1, e2, ans_d c (hg P i j) q⟩
theorem str2_s {t1 : T} {f : Str → Option T} {t : T} (d : (match t1 with | .d (.str a) => f a | _ => none) = some t) : ∃ a, t1 = .d (.str a) ∧ f a = some t := by
  cases t1 with
  | d y => cases y <;> first | exact ⟨_, rfl, d⟩ | (simp at d)
  | _ => simp at d
theorem add_str : Op2S G (fun x y H Q => ∃ i j, x = .str i ∧ y = .str j ∧ i.length + j.length ≤ sizeLine ∧ Q (.str (i ++ j)) H) fAddS := by
  intro P F v1 v2 t1 t2 t H Q a b c d q
  obtain ⟨x, e1, d⟩ := obind d
  obtain ⟨y, e2, d⟩ := obind d
  obtain ⟨hc, rfl⟩ := ife d
  exact ⟨x, y, a.str e1, b.str e2, hc, ans_d (d := .str (x ++ y)) c rfl q⟩
theorem add_lst : Op2S G rCat fAddL := by
  intro P F v1 v2 t1 t2 t H Q a b c d q
  obtain ⟨x, e1, d⟩ := obind d
  obtain ⟨y, e2, d⟩ := obind d
  obtain ⟨hc, rfl⟩ := ife d
  obtain ⟨p1, vs1, rfl, h1, r1⟩ := a.lstX c.ex e1
  obtain ⟨p2, vs2, rfl, h2, r2⟩ := b.lstX c.ex e2
  exact ⟨p1, p2, vs1, vs2, rfl, rfl, h1, h2, by rw [r1.len, r2.len]; exact hc, ans_l c (r1.app r2) q⟩
theorem add_tup : Op2S G (rCatA G.K) fAddT := by
  intro P F v1 v2 t1 t2 t H Q a b c d q
  obtain ⟨x, e1, d⟩ := obind d
  obtain ⟨y, e2, d⟩ := obind d
  obtain ⟨hc, rfl⟩ := ife d
  have ea : t1 = .d (.tup x) := by
    cases t1 with
    | d y => cases y <;> simp [T.tup?] at e1; subst e1; rfl
    | _ => simp [T.tup?] at e1
  have eb : t2 = .d (.tup y) := by
    cases t2 with
    | d y => cases y <;> simp [T.tup?] at e2; subst e2; rfl
    | _ => simp [T.tup?] at e2
  subst ea
  subst eb
  obtain ⟨_, ⟨_, p1, vs1, rfl, h1, r1⟩, _⟩ := a
  obtain ⟨_, ⟨_, p2, vs2, rfl, h2, r2⟩, _⟩ := b
  refine ⟨p1, p2, vs1, vs2, rfl, rfl, Evl.ex_t c.ex h1, Evl.ex_t c.ex h2, by rw [r1.len, r2.len]; exact hc, fun e => ?_, fun e e' => ?_, fun _ _ => ans_t c (r1.app r2) q⟩
  · subst e
    have : x = [] := List.length_eq_zero_iff.mp (by rw [← r1.len]; rfl)
    subst this
    exact ans_d (d := .tup y) c ⟨p2, vs2, rfl, h2, r2⟩ q
  · subst e'
    have : y = [] := List.length_eq_zero_iff.mp (by rw [← r2.len]; rfl)
    subst this
    rw [List.append_nil] at q
    exact ans_d (d := .tup x) c ⟨p1, vs1, rfl, h1, r1⟩ q
theorem mul_lst : Op2S G rRep fMulL := by
  intro P F v1 v2 t1 t2 t H Q a b c d q
  obtain ⟨x, e1, d⟩ := obind d
  obtain ⟨k, e2, d⟩ := obind d
  obtain ⟨hc, rfl⟩ := ife d
  obtain ⟨p1, vs1, rfl, h1, r1⟩ := a.lstX c.ex e1
  refine ⟨p1, k, vs1, rfl, b.int e2, h1, hc.1, hc.2.1, by rw [r1.len]; exact hc.2.2, ans_l c ?_ q⟩
  have : ∀ n : Nat, Reps G P (List.replicate n x).flatten (List.replicate n vs1).flatten := fun n => by
    induction n with
    | zero => exact rfl
    | succ n ih => rw [List.replicate_succ, List.replicate_succ, List.flatten_cons, List.flatten_cons]; exact r1.app ih
  exact this _
end
theorem op_fdivA {X : Cx} : OpR X (binaryOp .FloorDiv) (rI CDivA fun i j => .int (i.fdiv j)) := opI fun i j _ _ _ _ _ hc q => PyProof.Rows.floordiv_int hc.1 q (.inl (PyProof.noPylong_of_log2 hc.2))
section
variable {c : Nat → Addr} {X : Cx} {W : WX} {pos : Pos} {a b : Expr} {ma mb : MO}
theorem xe_op {op : Operator} {r : R2} {f : T → T → Option T} (ho : OpR X (binaryOp op) r) (hs : Op2S ⟨X.K, c⟩ r f) (ha : XO c X W a ma) (hb : XO c X W b mb) : XE c X W (.BinOp a op b pos) (mOp2 f ma mb) :=
  let ⟨_, p1, s1⟩ := ha; let ⟨_, p2, s2⟩ := hb; ⟨_, pe_op ho p1 p2, SO.op2 hs s1 s2⟩
theorem xe_cmp {op : CmpOp} {r : R2} {f : T → T → Option T} (ho : OpR X (compareOp op) r) (hs : Op2S ⟨X.K, c⟩ r f) (ha : XO c X W a ma) (hb : XO c X W b mb) (hm : behindInMarks op b = false) : XE c X W (.Compare a [op] [b] pos) (mOp2 f ma mb) :=
  let ⟨_, p1, s1⟩ := ha; let ⟨_, p2, s2⟩ := hb; ⟨_, pe_cmpR ho p1 p2 hm, SO.op2 hs s1 s2⟩
theorem add_all {G : Gx} : Op2S G (fun x y H Q => (rI0 fun i j => .int (i + j)) x y H Q ∨ ((∃ i j, x = .str i ∧ y = .str j ∧ i.length + j.length ≤ sizeLine ∧ Q (.str (i ++ j)) H) ∨ (rCatA G.K x y H Q ∨ rCat x y H Q))) bAdd :=
  Op2S.or (int20 (g' := fun i j => .int (i + j)) fun _ _ _ => rfl) (Op2S.or add_str (Op2S.or add_tup add_lst))
theorem mul_all {G : Gx} : Op2S G (fun x y H Q => (rI CMulW fun i j => .int (i * j)) x y H Q ∨ rRep x y H Q) bMul :=
  Op2S.or (int2 (g' := fun i j => .int (i * j)) fun _ _ _ => rfl) mul_lst
theorem xe_add (ha : XO c X W a ma) (hb : XO c X W b mb) : XE c X W (.BinOp a .Add b pos) (mOp2 bAdd ma mb) :=
  xe_op (OpR.or op_add (OpR.or op_add_str (OpR.or op_catA op_cat))) add_all ha hb
theorem xe_sub (ha : XO c X W a ma) (hb : XO c X W b mb) : XE c X W (.BinOp a .Sub b pos) (mOp2 bSub ma mb) :=
  xe_op op_sub (int20 (g' := fun i j => .int (i - j)) fun _ _ _ => rfl) ha hb
theorem xe_mul (ha : XO c X W a ma) (hb : XO c X W b mb) : XE c X W (.BinOp a .Mult b pos) (mOp2 bMul ma mb) :=
  xe_op (OpR.or op_mulW op_rep) mul_all ha hb
theorem xe_fdiv (ha : XO c X W a ma) (hb : XO c X W b mb) : XE c X W (.BinOp a .FloorDiv b pos) (mOp2 bFdiv ma mb) :=
  xe_op op_fdivA (int2 (g' := fun i j => .int (i.fdiv j)) fun _ _ _ => rfl) ha hb
theorem xe_mod (ha : XO c X W a ma) (hb : XO c X W b mb) : XE c X W (.BinOp a .Mod b pos) (mOp2 bMod ma mb) :=
  xe_op op_modN (int2 (C := fun _ j => j ≠ 0) (g' := fun i j => .int (i.fmod j)) fun _ _ _ => rfl) ha hb
theorem xe_pow (ha : XO c X W a ma) (hb : XO c X W b mb) : XE c X W (.BinOp a .Pow b pos) (mOp2 bPow ma mb) :=
  xe_op op_pow (int2 (g' := fun i j => .int (i ^ j.toNat)) fun _ _ _ => rfl) ha hb
theorem neg_s {G : Gx} : Op1S G (rU fun i => .int (-i)) uNeg := by
  intro P F v1 t1 t H Q a c d q
  cases t1 with
  | d y =>
    cases y <;> simp [uNeg] at d
    subst d
    rename_i i
    exact ⟨i, a.int rfl, ans_d (d := .int (-i)) c rfl q⟩
  | _ => simp [uNeg] at d
theorem xe_neg (ha : XO c X W a ma) : XE c X W (.UnaryOp .USub a pos) (mOp1 uNeg ma) := let ⟨_, p1, s1⟩ := ha; ⟨_, pe_un un_neg p1, SO.op1 neg_s s1⟩
end
end NS
namespace NS
open PySem L2

/-! ### comparisons -/
mutual
def D.py : D → Option PyData
  | .non => some .none
  | .bl b => some (.bool b)
  | .int i => some (.int i)
  | .str s => some (.str s)
  | .lst xs => match D.pys xs with | some ys => some (.list ys) | none => none
  | .ro xs => match D.pys xs with | some ys => some (.list ys) | none => none
  | .tup xs => match D.pys xs with | some ys => some (.tuple ys) | none => none
  | .dct _ => none
  | .obj _ _ => none
def D.pys : List D → Option (List PyData)
  | [] => some []
  | x :: r => match D.py x, D.pys r with | some y, some z => some (y :: z) | _, _ => none
end
mutual
theorem Rep.dp {G : Gx} {P H : Hp} (e : Ex P H) : ∀ {d : D} {v : V} {p : PyData}, Rep G P d v → d.py = some p → Dp G.K H v p
  | .non, _, _, h, q => by
    cases (show _ = _ from h); simp [D.py] at q; subst q; exact .non
  | .bl b, _, _, h, q => by
    cases (show _ = _ from h); simp [D.py] at q; subst q; exact .bl b
  | .int b, _, _, h, q => by
    cases (show _ = _ from h); simp [D.py] at q; subst q; exact .int b
  | .str b, _, _, h, q => by
    cases (show _ = _ from h); simp [D.py] at q; subst q; exact .str b
  | .lst xs, _, _, ⟨a, vs, e1, s, r⟩, q => by
    simp only [D.py] at q
    cases z : D.pys xs with
    | none => rw [z] at q; cases q
    | some ys => rw [z] at q; cases q; rw [e1]; exact .lst (Evl.sq_of (e _ _ s)) (Reps.dp e r z)
  | .ro xs, _, _, ⟨a, vs, e1, s, r⟩, q => by
    simp only [D.py] at q
    cases z : D.pys xs with
    | none => rw [z] at q; cases q
    | some ys => rw [z] at q; cases q; rw [e1]; exact .lst (Evl.ex_l e s) (Reps.dp e r z)
  | .tup xs, _, _, ⟨a, vs, e1, s, r⟩, q => by
    simp only [D.py] at q
    cases z : D.pys xs with
    | none => rw [z] at q; cases q
    | some ys => rw [z] at q; cases q; rw [e1]; exact .tup (Evl.ex_t e s) (Reps.dp e r z)
  | .dct _, _, _, _, q => by simp [D.py] at q
  | .obj _ _, _, _, _, q => by simp [D.py] at q
theorem Reps.dp {G : Gx} {P H : Hp} (e : Ex P H) : ∀ {ds : List D} {vs : List V} {ps : List PyData}, Reps G P ds vs → D.pys ds = some ps → DpAll G.K H vs ps
  | [], _, _, h, q => by rw [show _ = _ from h]; simp [D.pys] at q; subst q; exact .nil
  | x :: r, _, _, ⟨v, w, e1, h, hr⟩, q => by
    simp only [D.pys] at q
    cases z1 : D.py x with
    | none => rw [z1] at q; cases q
    | some y =>
      cases z2 : D.pys r with
      | none => rw [z1, z2] at q; cases q
      | some ys => rw [z1, z2] at q; cases q; rw [e1]; exact .cons (Rep.dp e h z1) (Reps.dp e hr z2)
end
theorem View.dp {G : Gx} {P H : Hp} {t : T} {v : V} {p : PyData} (x : View G P H t v) (e : Ex P H) (q : t.toD.py = some p) : Dp G.K H v p := by
  cases t with
  | d y => obtain ⟨_, ⟨_, r⟩, _⟩ := x; exact r.dp e q
  | l xs =>
    obtain ⟨a, vs, rfl, s, r⟩ := x.lst (xs := xs) e rfl
    simp only [T.toD, D.py] at q
    cases z : D.pys xs with
    | none => rw [z] at q; cases q
    | some ys => rw [z] at q; cases q; exact .lst s (r.dp e z)
  | k _ => simp [T.toD, D.py] at q
  | o _ _ => simp [T.toD, D.py] at q
def fEqS (s t : T) : Option T := match s, t with
  | .d (.int i), .d (.int j) => some (.d (.bl (decide (i = j))))
  | .d (.str i), .d (.str j) => some (.d (.bl (decide (i = j))))
  | .d (.bl i), .d (.bl j) => some (.d (.bl (decide (i = j))))
  | .d .non, .d .non => some (.d (.bl true))
  | .d .non, .d (.int _) => some (.d (.bl false))
  | .d .non, .d (.str _) => some (.d (.bl false))
  | .d (.int _), .d .non => some (.d (.bl false))
  | .d (.str _), .d .non => some (.d (.bl false))
  | _, _ => none
def fEqD (s t : T) : Option T := (s.toD.py).bind fun a => (t.toD.py).bind fun b => if SeqAt.shaped a = true ∧ SeqAt.shaped b = true then some (.d (.bl (PyData.eqv a b))) else none
def bNot (o : Option T) : Option T := match o with
  | some (.d (.bl b)) => some (.d (.bl (!b)))
  | _ => none
def bEq : T → T → Option T := orE fEqS fEqD
def bNe (s t : T) : Option T := bNot (bEq s t)
@[simp] theorem bEq_ii (i j : Int) : bEq (.d (.int i)) (.d (.int j)) = some (.d (.bl (decide (i = j)))) := rfl
@[simp] theorem bEq_ss (i j : Str) : bEq (.d (.str i)) (.d (.str j)) = some (.d (.bl (decide (i = j)))) := rfl
@[simp] theorem bEq_bb (i j : Bool) : bEq (.d (.bl i)) (.d (.bl j)) = some (.d (.bl (decide (i = j)))) := rfl
@[simp] theorem bNot_none : bNot none = none := rfl
@[simp] theorem bNot_b (b : Bool) : bNot (some (.d (.bl b))) = some (.d (.bl (!b))) := rfl
def bLt (s t : T) : Option T := match s, t with
  | .d (.int i), .d (.int j) => some (.d (.bl (decide (i < j))))
  | _, _ => none
def bLe (s t : T) : Option T := match s, t with
  | .d (.int i), .d (.int j) => some (.d (.bl (decide (i ≤ j))))
  | _, _ => none
def bGt (s t : T) : Option T := match s, t with
  | .d (.int i), .d (.int j) => some (.d (.bl (decide (j < i))))
  | _, _ => none
def bGe (s t : T) : Option T := match s, t with
  | .d (.int i), .d (.int j) => some (.d (.bl (decide (j ≤ i))))
  | _, _ => none
@[simp] theorem bLt_ii (i j : Int) : bLt (.d (.int i)) (.d (.int j)) = some (.d (.bl (decide (i < j)))) := rfl
@[simp] theorem bLe_ii (i j : Int) : bLe (.d (.int i)) (.d (.int j)) = some (.d (.bl (decide (i ≤ j)))) := rfl
@[simp] theorem bGt_ii (i j : Int) : bGt (.d (.int i)) (.d (.int j)) = some (.d (.bl (decide (j < i)))) := rfl
@[simp] theorem bGe_ii (i j : Int) : bGe (.d (.int i)) (.d (.int j)) = some (.d (.bl (decide (j ≤ i)))) := rfl
/-- is None -/
def D.isNon : D → Bool
  | .non => true
  | _ => false
def bIsN (s : T) : Option T := some (.d (.bl s.toD.isNon))
def bNotN (s : T) : Option T := some (.d (.bl (!s.toD.isNon)))
/-- in, of flat things -/
def D.flat : D → Bool
  | .non | .bl _ | .int _ | .str _ => true
  | _ => false
def D.eqF : D → D → Bool
  | .non, .non => true
  | .bl a, .bl b => a == b
  | .bl a, .int b => (if a then 1 else 0) == b
  | .int a, .bl b => a == (if b then 1 else 0)
  | .int a, .int b => a == b
  | .str a, .str b => a == b
  | _, _ => false
def bIn (s t : T) : Option T := (t.seq?).bind fun xs => if s.toD.flat = true ∧ xs.all D.flat = true then some (.d (.bl (xs.any fun y => D.eqF y s.toD))) else none
def bNotIn (s t : T) : Option T := (t.seq?).bind fun xs => if s.toD.flat = true ∧ xs.all D.flat = true then some (.d (.bl (!xs.any fun y => D.eqF y s.toD))) else none
section
variable {G : Gx}
theorem Rep.flat {P : Hp} {d : D} {v : V} (h : Rep G P d v) (f : d.flat = true) : flatV v = true := by
  cases d <;> simp [D.flat] at f <;> (cases (show _ = _ from h); rfl)
theorem Rep.eqF {P : Hp} {d e : D} {v w : V} (h : Rep G P d v) (f : d.flat = true) (h' : Rep G P e w) (f' : e.flat = true) : eqV v w = D.eqF d e := by
  cases d <;> simp [D.flat] at f <;> cases e <;> simp [D.flat] at f' <;> (cases (show _ = _ from h); cases (show _ = _ from h'); rfl)
theorem Reps.flat {P : Hp} : ∀ {ds : List D} {vs : List V}, Reps G P ds vs → ds.all D.flat = true → vs.all flatV = true
  | [], _, h, _ => by rw [show _ = _ from h]; rfl
  | x :: r, _, ⟨v, w, e1, h, hr⟩, f => by
    rw [List.all_cons, Bool.and_eq_true] at f
    rw [e1, List.all_cons, h.flat f.1, Reps.flat hr f.2]; rfl
theorem Reps.inV {P : Hp} {e : D} {w : V} (h' : Rep G P e w) (f' : e.flat = true) : ∀ {ds : List D} {vs : List V}, Reps G P ds vs → ds.all D.flat = true → L2.inV w vs = ds.any fun y => D.eqF y e
  | [], _, h, _ => by rw [show _ = _ from h]; rfl
  | x :: r, _, ⟨v, z, e1, h, hr⟩, f => by
    rw [List.all_cons, Bool.and_eq_true] at f
    have ih := Reps.inV h' f' hr f.2
    unfold L2.inV at ih ⊢
    rw [e1, List.any_cons, List.any_cons, ih, h.eqF f.1 h' f']
theorem View.toRep {P H : Hp} {t : T} {v : V} (x : View G P H t v) (f : t.toD.flat = true) : Rep G P t.toD v := by
  cases t with
  | d y => obtain ⟨_, ⟨_, r⟩, _⟩ := x; exact r
  | _ => simp [T.toD, D.flat] at f
theorem eqS : Op2S G rEq fEqS := by
  intro P F v1 v2 t1 t2 t H Q a b c d q
  cases t1 with
  | d y =>
    cases t2 with
    | d z =>
      obtain ⟨_, ⟨_, r1⟩, _⟩ := a
      obtain ⟨_, ⟨_, r2⟩, _⟩ := b
      cases y <;> cases z <;> simp [fEqS] at d <;> subst d <;> cases (show _ = _ from r1) <;> cases (show _ = _ from r2)
      all_goals refine ⟨rfl, ?_⟩
      all_goals first
        | exact ans_d (d := .bl _) c (by simp [Rep]) q
    | _ => simp [fEqS] at d
  | _ => simp [fEqS] at d
theorem eqD : Op2S G (rEqD G.K) fEqD := by
  intro P F v1 v2 t1 t2 t H Q a b c d q
  obtain ⟨x, e1, d⟩ := obind d
  obtain ⟨y, e2, d⟩ := obind d
  obtain ⟨hc, rfl⟩ := ife d
  exact ⟨x, y, a.dp c.ex e1, b.dp c.ex e2, hc.1, hc.2, ans_d (d := .bl _) c rfl q⟩
theorem neS : Op2S G rNe (fun s t => bNot (fEqS s t)) := by
  intro P F v1 v2 t1 t2 t H Q a b c d q
  cases t1 with
  | d y =>
    cases t2 with
    | d z =>
      obtain ⟨_, ⟨_, r1⟩, _⟩ := a
      obtain ⟨_, ⟨_, r2⟩, _⟩ := b
      cases y <;> cases z <;> simp [fEqS, bNot] at d <;> subst d <;> cases (show _ = _ from r1) <;> cases (show _ = _ from r2)
      all_goals refine ⟨rfl, ?_⟩
      all_goals first
        | exact ans_d (d := .bl _) c (by simp [Rep]) q
    | _ => simp [fEqS, bNot] at d
  | _ => simp [fEqS, bNot] at d
theorem neD : Op2S G (rNeD G.K) (fun s t => bNot (fEqD s t)) := by
  intro P F v1 v2 t1 t2 t H Q a b c d q
  dsimp only at d
  cases h : fEqD t1 t2 with
  | none => rw [h] at d; cases d
  | some u =>
    have h0 := h
    obtain ⟨x, e1, h⟩ := obind h
    obtain ⟨y, e2, h⟩ := obind h
    obtain ⟨hc, rfl⟩ := ife h
    rw [h0] at d
    simp only [bNot, Option.some.injEq] at d
    subst d
    exact ⟨x, y, a.dp c.ex e1, b.dp c.ex e2, hc.1, hc.2, ans_d (d := .bl _) c rfl q⟩
theorem ne_all : Op2S G (fun x y H Q => rNe x y H Q ∨ rNeD G.K x y H Q) bNe := by
  intro P F v1 v2 t1 t2 t H Q a b c d q
  refine Op2S.or neS neD P F v1 v2 t1 t2 t H Q a b c ?_ q
  have d : bNot (bEq t1 t2) = some t := d
  cases h : fEqS t1 t2 with
  | none =>
    have e : bEq t1 t2 = fEqD t1 t2 := by simp only [bEq, orE, h]
    rw [e] at d
    simp only [orE, h]
    exact d
  | some u =>
    have e : bEq t1 t2 = some u := by simp only [bEq, orE, h]
    rw [e] at d
    simp only [orE, h, d]
theorem isN : Op2S G (fun x y H Q => y = .non ∧ Q (.bl (decide (x = .non))) H) (fun s t => if t.toD.isNon = true then bIsN s else none) := by
  intro P F v1 v2 t1 t2 t H Q a b c d q
  dsimp only at d
  split at d
  · rename_i hn
    have e2 : v2 = .non := by
      cases t2 with
      | d z =>
        obtain ⟨_, ⟨_, r2⟩, _⟩ := b
        cases z <;> simp [T.toD, D.isNon] at hn
        exact r2
      | _ => simp [T.toD, D.isNon] at hn
    refine ⟨e2, ?_⟩
    simp only [bIsN, Option.some.injEq] at d
    subst d
    have e : decide (v1 = .non) = t1.toD.isNon := by
      obtain ⟨_, o, _⟩ := a
      cases t1 with
      | d z =>
        obtain ⟨_, r1⟩ := o
        cases z with
        | non => cases (show _ = _ from r1); rfl
        | bl _ => cases (show _ = _ from r1); rfl
        | int _ => cases (show _ = _ from r1); rfl
        | str _ => cases (show _ = _ from r1); rfl
        | lst _ => obtain ⟨_, _, rfl, _⟩ := r1; rfl
        | ro _ => obtain ⟨_, _, rfl, _⟩ := r1; rfl
        | tup _ => obtain ⟨_, _, rfl, _⟩ := r1; rfl
        | dct _ => obtain ⟨_, _, rfl, _⟩ := r1; rfl
        | obj _ _ => obtain ⟨_, _, _, rfl, _⟩ := r1; rfl
      | l _ => obtain ⟨_, _, rfl, _⟩ := o; rfl
      | k _ => obtain ⟨_, _, rfl, _⟩ := o; rfl
      | o _ _ => obtain ⟨_, _, _, rfl, _⟩ := o; rfl
    rw [e]
    exact ans_d (d := .bl _) c rfl q
  · cases d
theorem notN : Op2S G (fun x y H Q => y = .non ∧ Q (.bl (!decide (x = .non))) H) (fun s t => if t.toD.isNon = true then bNotN s else none) := by
  intro P F v1 v2 t1 t2 t H Q a b c d q
  dsimp only at d
  split at d
  · rename_i hn
    simp only [bNotN, Option.some.injEq] at d
    obtain ⟨e2, k⟩ := isN P F v1 v2 t1 t2 (.d (.bl t1.toD.isNon)) H (fun v H' => v = .bl t1.toD.isNon) a b c (by dsimp only; rw [if_pos hn]; rfl) (fun P' v h H' _ o _ => o.2)
    refine ⟨e2, ?_⟩
    subst d
    have : decide (v1 = V.non) = t1.toD.isNon := V.bl.inj k
    rw [this]
    exact ans_d (d := .bl _) c rfl q
  · cases d
theorem inS : Op2S G (rIn G.K false) bIn := by
  intro P F v1 v2 t1 t2 t H Q a b c d q
  obtain ⟨x, e1, d⟩ := obind d
  obtain ⟨hc, rfl⟩ := ife d
  obtain ⟨p, vs, rfl, s, r⟩ := b.seq c.ex e1
  have ra := a.toRep hc.1
  refine ⟨p, vs, rfl, s, ra.flat hc.1, r.flat hc.2, ?_⟩
  show Q (.bl (inV v1 vs)) H
  rw [Reps.inV ra hc.1 r hc.2]
  exact ans_d (d := .bl _) c rfl q
theorem notInS : Op2S G (rIn G.K true) bNotIn := by
  intro P F v1 v2 t1 t2 t H Q a b c d q
  obtain ⟨x, e1, d⟩ := obind d
  obtain ⟨hc, rfl⟩ := ife d
  obtain ⟨p, vs, rfl, s, r⟩ := b.seq c.ex e1
  have ra := a.toRep hc.1
  refine ⟨p, vs, rfl, s, ra.flat hc.1, r.flat hc.2, ?_⟩
  show Q (.bl (!inV v1 vs)) H
  rw [Reps.inV ra hc.1 r hc.2]
  exact ans_d (d := .bl _) c rfl q
end
section
variable {c : Nat → Addr} {X : Cx} {W : WX} {pos : Pos} {a b : Expr} {ma mb : MO}
theorem xe_eq (hu : X.A.units + 64 < cLine) (ha : XO c X W a ma) (hb : XO c X W b mb) : XE c X W (.Compare a [.Eq] [b] pos) (mOp2 bEq ma mb) := xe_cmp (OpR.or op_eq (op_eqD hu)) (Op2S.or eqS eqD) ha hb (nomark _)
theorem xe_ne (hu : X.A.units + 64 < cLine) (ha : XO c X W a ma) (hb : XO c X W b mb) : XE c X W (.Compare a [.NotEq] [b] pos) (mOp2 bNe ma mb) := xe_cmp (OpR.or op_ne (op_neD hu)) ne_all ha hb (nomark _)
theorem xe_lt (ha : XO c X W a ma) (hb : XO c X W b mb) : XE c X W (.Compare a [.Lt] [b] pos) (mOp2 bLt ma mb) := xe_cmp op_lt (int20 (g' := fun i j => .bl (decide (i < j))) fun _ _ _ => rfl) ha hb (nomark _)
theorem xe_le (ha : XO c X W a ma) (hb : XO c X W b mb) : XE c X W (.Compare a [.LtE] [b] pos) (mOp2 bLe ma mb) := xe_cmp op_le (int20 (g' := fun i j => .bl (decide (i ≤ j))) fun _ _ _ => rfl) ha hb (nomark _)
theorem xe_gt (ha : XO c X W a ma) (hb : XO c X W b mb) : XE c X W (.Compare a [.Gt] [b] pos) (mOp2 bGt ma mb) := xe_cmp op_gt (int20 (g' := fun i j => .bl (decide (j < i))) fun _ _ _ => rfl) ha hb (nomark _)
theorem xe_ge (ha : XO c X W a ma) (hb : XO c X W b mb) : XE c X W (.Compare a [.GtE] [b] pos) (mOp2 bGe ma mb) := xe_cmp op_ge (int20 (g' := fun i j => .bl (decide (j ≤ i))) fun _ _ _ => rfl) ha hb (nomark _)
def mIsN (ma : MO) : ME := mOp1 bIsN ma
def mNotN (ma : MO) : ME := mOp1 bNotN ma
theorem op2N {g : T → Option T} (ma : MO) : mOp2 (fun s t => if t.toD.isNon = true then g s else none) ma (mDO (mC .non)) = mOp1 g ma := by
  funext env
  unfold mOp2 mOp1
  cases ma env with
  | ok o e1 =>
    simp only [Rs.bind_ok, mDO, mC, Rs.map_ok]
    cases o.at e1 <;> rfl
  | exc _ _ => rfl
  | bad => rfl
theorem xe_isN {j p2} (ha : XO c X W a ma) : XE c X W (.Compare a [.Is] [.Constant .none j p2] pos) (mIsN ma) := by
  have h := xe_cmp (pos := pos) op_isN isN ha (XD.o (xd_non (c := c) (X := X) (W := W) (pos := p2) (j := j))) (nomark _)
  rw [op2N] at h
  exact h
theorem xe_notN {j p2} (ha : XO c X W a ma) : XE c X W (.Compare a [.IsNot] [.Constant .none j p2] pos) (mNotN ma) := by
  have h := xe_cmp (pos := pos) op_notN notN ha (XD.o (xd_non (c := c) (X := X) (W := W) (pos := p2) (j := j))) (nomark _)
  rw [op2N] at h
  exact h
theorem xe_in (ha : XO c X W a ma) (hb : XO c X W b mb) (hm : behindInMarks .In b = false := by rfl) : XE c X W (.Compare a [.In] [b] pos) (mOp2 bIn ma mb) := xe_cmp op_in_seq inS ha hb hm
theorem xe_notIn (ha : XO c X W a ma) (hb : XO c X W b mb) (hm : behindInMarks .NotIn b = false := by rfl) : XE c X W (.Compare a [.NotIn] [b] pos) (mOp2 bNotIn ma mb) := xe_cmp op_notIn_seq notInS ha hb hm
end
end NS
namespace NS
open PySem L2

/-! ### tests -/
abbrev MB := Env → Rs Bool
structure ST (G : Gx) (W : WX) (tt : TT) (m : MB) : Prop where
  run : ∀ P M F env σ H Q, EnvOk G P env σ M → Hold P (M ++ F) H → (match m env with
    | .ok b env' => ∀ P' M' H', Ex P P' → EnvOk G P' env' σ M' → Hold P' (M' ++ F) H' → Q b H'
    | .exc x env' => XP G W P F (· = σ) x env'
    | .bad => False) → tt σ H Q
def XT (c : Nat → Addr) (X : Cx) (W : WX) (e : Expr) (m : MB) : Prop := ∃ tt, PT X e tt ∧ ST ⟨X.K, c⟩ W tt m
/-- and, or of tests -/
def XW (c : Nat → Addr) (X : Cx) (W : WX) (e : Expr) (m : MB) : Prop := ∃ tt, PW X e tt ∧ ST ⟨X.K, c⟩ W tt m
def mB (m : ME) : MB := fun env => (m env).bind fun t e => Rs.of t.bl? e
def mAndT (m n : MB) : MB := fun env => (m env).bind fun b e => if b = true then n e else .ok false e
def mOrT (m n : MB) : MB := fun env => (m env).bind fun b e => if b = true then .ok true e else n e
def mNotT (m : MB) : MB := fun env => (m env).map fun b => !b
def bTru (t : T) : Option Bool := match t with
  | .d .non => some false
  | .d (.bl b) => some b
  | .d (.int i) => some (i != 0)
  | .d (.str s) => if s.length ≤ sizeLine then some ((s.length : Int) != 0) else none
  | .d (.lst xs) => some (!xs.isEmpty)
  | .d (.ro xs) => some (!xs.isEmpty)
  | .d (.tup xs) => some (!xs.isEmpty)
  | .l xs => some (!xs.isEmpty)
  | .d (.dct xs) => some (!xs.isEmpty)
  | .k xs => some (!xs.isEmpty)
  | _ => none
def mTru (m : MO) : MB := fun env => (m env).bind fun o e => Rs.of ((o.at e).bind bTru) e
section
variable {G : Gx} {W : WX} {te : TE} {ta tb : TT}
theorem Reps.emp {P : Hp} {ds : List D} {vs : List V} (h : Reps G P ds vs) : vs.isEmpty = ds.isEmpty := by
  cases ds with
  | nil => rw [show _ = _ from h]; rfl
  | cons d ds => obtain ⟨_, _, rfl, _⟩ := h; rfl
theorem RepK.emp {P : Hp} {ds : List (Key × D)} {vs : List (Key × V)} (h : RepK G P ds vs) : vs.isEmpty = ds.isEmpty := by
  cases ds with
  | nil => rw [show _ = _ from h]; rfl
  | cons d ds => obtain ⟨_, _⟩ := d; obtain ⟨_, _, rfl, _⟩ := h; rfl
theorem View.tru {P H : Hp} {t : T} {v : V} {b : Bool} (x : View G P H t v) (e : Ex P H) (q : bTru t = some b) : TruV G.K v H b := by
  obtain ⟨_, o, hh⟩ := x
  cases t with
  | d y =>
    obtain ⟨_, r⟩ := o
    cases y with
    | non => cases (show _ = _ from r); simp [bTru] at q; exact q.symm ▸ rfl
    | bl _ => cases (show _ = _ from r); simp [bTru] at q; exact q.symm ▸ rfl
    | int _ => cases (show _ = _ from r); simp only [bTru, Option.some.injEq] at q; exact q.symm ▸ rfl
    | str _ => cases (show _ = _ from r); obtain ⟨h1, h2⟩ := ife q; exact ⟨h1, h2.symm⟩
    | lst _ => obtain ⟨a, vs, rfl, s, r⟩ := r; simp only [bTru, Option.some.injEq] at q; exact .inl ⟨vs, Evl.sq_of (e _ _ s), by rw [r.emp]; exact q.symm⟩
    | ro _ => obtain ⟨a, vs, rfl, s, r⟩ := r; simp only [bTru, Option.some.injEq] at q; exact .inl ⟨vs, Evl.ex_l e s, by rw [r.emp]; exact q.symm⟩
    | tup _ => obtain ⟨a, vs, rfl, s, r⟩ := r; simp only [bTru, Option.some.injEq] at q; exact .inr (.inl ⟨vs, Evl.ex_t e s, by rw [r.emp]; exact q.symm⟩)
    | dct _ => obtain ⟨a, vs, rfl, s, r⟩ := r; simp only [bTru, Option.some.injEq] at q; exact .inr (.inr ⟨vs, e _ _ s, by rw [r.emp]; exact q.symm⟩)
    | obj _ _ => simp [bTru] at q
  | l _ => obtain ⟨a, vs, rfl, rfl, r⟩ := o; simp only [bTru, Option.some.injEq] at q; exact .inl ⟨vs, Evl.sq_of (hh _ List.mem_cons_self), by rw [r.emp]; exact q.symm⟩
  | k _ => obtain ⟨a, vs, rfl, rfl, r⟩ := o; simp only [bTru, Option.some.injEq] at q; exact .inr (.inr ⟨vs, hh _ List.mem_cons_self, by rw [r.emp]; exact q.symm⟩)
  | o _ _ => simp [bTru] at q
theorem SE.t {m : ME} (h : SE G W te m) : ST G W (fun σ H Q => te σ H fun x H' => ∃ k, x = .bl k ∧ Q k H') (mB m) := ⟨fun P M F env σ H Q y x q => h.run P M F env σ H _ y x (by
  unfold mB at q
  cases e : m env with
  | bad => rw [e] at q; exact q.elim
  | exc z e' => rw [e] at q; exact q
  | ok t e' =>
    rw [e, Rs.bind_ok] at q
    intro P' M' v h' H' a b cc d
    cases t with
    | d w =>
      cases w with
      | bl b' => obtain ⟨rfl, r⟩ := cc; exact ⟨b', r, q P' M' H' a b d⟩
      | _ => exact q.elim
    | _ => exact q.elim)⟩
theorem SO.tru {m : MO} (h : SO G W te m) : ST G W (fun σ H Q => te σ H fun x H' => ∃ k, TruV G.K x H' k ∧ Q k H') (mTru m) := ⟨fun P M F env σ H Q y x q => h.run P M F env σ H _ y x (by
  unfold mTru at q
  cases e : m env with
  | bad => rw [e] at q; exact q.elim
  | exc z e' => rw [e] at q; exact q
  | ok o e' =>
    rw [e, Rs.bind_ok] at q
    intro P' M' v h' H' a b cc d
    cases e3 : (o.at e').bind bTru with
    | none => rw [e3] at q; exact q.elim
    | some k =>
      rw [e3] at q
      obtain ⟨t, a1, e4⟩ := obind e3
      have vw : View G P' H' t v := cc.view b (fun z hz => d.at_ z (List.mem_append_left _ hz)) (fun z hz => d.at_ z (List.mem_append_right _ (List.mem_append_left _ hz))) a1
      exact ⟨k, vw.tru d.ex e4, q P' M' H' a b d.dropL⟩)⟩
theorem ST.and {m n : MB} (h : ST G W ta m) (h' : ST G W tb n) : ST G W (tAnd ta tb) (mAndT m n) := ⟨fun P M F env σ H Q y x q => h.run P M F env σ H _ y x (by
  unfold mAndT at q
  cases e : m env with
  | bad => rw [e] at q; exact q.elim
  | exc z e' => rw [e] at q; exact q
  | ok b e' =>
    rw [e, Rs.bind_ok] at q
    intro P' M' H' a y' x'
    cases b with
    | false => exact q P' M' H' a y' x'
    | true =>
      rw [if_pos rfl] at q
      refine h'.run P' M' F e' σ H' Q y' x' ?_
      cases e2 : n e' with
      | bad => rw [e2] at q; exact q
      | exc z e3 => rw [e2] at q; exact XP.mono q a
      | ok b e3 => rw [e2] at q; exact fun P2 M2 H2 a2 => q P2 M2 H2 (a.trans a2))⟩
theorem ST.or {m n : MB} (h : ST G W ta m) (h' : ST G W tb n) : ST G W (tOr ta tb) (mOrT m n) := ⟨fun P M F env σ H Q y x q => h.run P M F env σ H _ y x (by
  unfold mOrT at q
  cases e : m env with
  | bad => rw [e] at q; exact q.elim
  | exc z e' => rw [e] at q; exact q
  | ok b e' =>
    rw [e, Rs.bind_ok] at q
    intro P' M' H' a y' x'
    cases b with
    | true => exact q P' M' H' a y' x'
    | false =>
      rw [if_neg (by decide)] at q
      refine h'.run P' M' F e' σ H' Q y' x' ?_
      cases e2 : n e' with
      | bad => rw [e2] at q; exact q
      | exc z e3 => rw [e2] at q; exact XP.mono q a
      | ok b e3 => rw [e2] at q; exact fun P2 M2 H2 a2 => q P2 M2 H2 (a.trans a2))⟩
theorem ST.not {m : MB} (h : ST G W ta m) : ST G W (tNot ta) (mNotT m) := ⟨fun P M F env σ H Q y x q => h.run P M F env σ H _ y x (by
  unfold mNotT at q
  cases e : m env with
  | bad => rw [e] at q; exact q.elim
  | exc z e' => rw [e] at q; exact q
  | ok b e' => rw [e] at q; exact q)⟩
end
section
variable {c : Nat → Addr} {X : Cx} {W : WX} {pos : Pos} {a b e : Expr}
theorem xt_cmpR {op : CmpOp} {r : R2} {f : T → T → Option T} {ma mb : MO} (ho : OpR X (compareOp op) r) (hs : Op2S ⟨X.K, c⟩ r f) (ha : XO c X W a ma) (hb : XO c X W b mb) (hm : behindInMarks op b = false) : XT c X W (.Compare a [op] [b] pos) (mB (mOp2 f ma mb)) :=
  let ⟨_, p1, s1⟩ := ha; let ⟨_, p2, s2⟩ := hb; ⟨_, pt_cmpR ho p1 p2 hm, (SO.op2 hs s1 s2).t⟩
theorem xt_val {m : ME} (h : XE c X W e m) (he : ∀ whole, isTrue e X.env whole = (do let v ← whole; standAt e.pos; holding [v] (truthy v)) := by intro _; rfl) : XT c X W e (mB m) :=
  let ⟨_, p, s⟩ := h; ⟨_, pt_val p he, s.t⟩
section
variable {ma mb : MO}
theorem xt_eq (hu : X.A.units + 64 < cLine) (ha : XO c X W a ma) (hb : XO c X W b mb) : XT c X W (.Compare a [.Eq] [b] pos) (mB (mOp2 bEq ma mb)) := xt_cmpR (OpR.or op_eq (op_eqD hu)) (Op2S.or eqS eqD) ha hb (nomark _)
theorem xt_ne (hu : X.A.units + 64 < cLine) (ha : XO c X W a ma) (hb : XO c X W b mb) : XT c X W (.Compare a [.NotEq] [b] pos) (mB (mOp2 bNe ma mb)) := xt_cmpR (OpR.or op_ne (op_neD hu)) ne_all ha hb (nomark _)
theorem xt_lt (ha : XO c X W a ma) (hb : XO c X W b mb) : XT c X W (.Compare a [.Lt] [b] pos) (mB (mOp2 bLt ma mb)) := xt_cmpR op_lt (int20 (g' := fun i j => .bl (decide (i < j))) fun _ _ _ => rfl) ha hb (nomark _)
theorem xt_le (ha : XO c X W a ma) (hb : XO c X W b mb) : XT c X W (.Compare a [.LtE] [b] pos) (mB (mOp2 bLe ma mb)) := xt_cmpR op_le (int20 (g' := fun i j => .bl (decide (i ≤ j))) fun _ _ _ => rfl) ha hb (nomark _)
theorem xt_gt (ha : XO c X W a ma) (hb : XO c X W b mb) : XT c X W (.Compare a [.Gt] [b] pos) (mB (mOp2 bGt ma mb)) := xt_cmpR op_gt (int20 (g' := fun i j => .bl (decide (j < i))) fun _ _ _ => rfl) ha hb (nomark _)
theorem xt_ge (ha : XO c X W a ma) (hb : XO c X W b mb) : XT c X W (.Compare a [.GtE] [b] pos) (mB (mOp2 bGe ma mb)) := xt_cmpR op_ge (int20 (g' := fun i j => .bl (decide (j ≤ i))) fun _ _ _ => rfl) ha hb (nomark _)
theorem xt_isN {j p2} (ha : XO c X W a ma) : XT c X W (.Compare a [.Is] [.Constant .none j p2] pos) (mB (mIsN ma)) := by
  have h := xt_cmpR (pos := pos) op_isN isN ha (XD.o (xd_non (c := c) (X := X) (W := W) (pos := p2) (j := j))) (nomark _)
  rw [op2N] at h
  exact h
theorem xt_notN {j p2} (ha : XO c X W a ma) : XT c X W (.Compare a [.IsNot] [.Constant .none j p2] pos) (mB (mNotN ma)) := by
  have h := xt_cmpR (pos := pos) op_notN notN ha (XD.o (xd_non (c := c) (X := X) (W := W) (pos := p2) (j := j))) (nomark _)
  rw [op2N] at h
  exact h
theorem xt_in (ha : XO c X W a ma) (hb : XO c X W b mb) (hm : behindInMarks .In b = false := by rfl) : XT c X W (.Compare a [.In] [b] pos) (mB (mOp2 bIn ma mb)) := xt_cmpR op_in_seq inS ha hb hm
theorem xt_notIn (ha : XO c X W a ma) (hb : XO c X W b mb) (hm : behindInMarks .NotIn b = false := by rfl) : XT c X W (.Compare a [.NotIn] [b] pos) (mB (mOp2 bNotIn ma mb)) := xt_cmpR op_notIn_seq notInS ha hb hm
end
theorem xt_tru {m : MO} (h : XO c X W a m) (he : ∀ whole, isTrue a X.env whole = (do let v ← whole; standAt a.pos; holding [v] (truthy v)) := by intro _; rfl) : XT c X W a (mTru m) :=
  let ⟨_, p, s⟩ := h; ⟨_, pt_truth p he, s.tru⟩
theorem XW.t {m : MB} (h : XW c X W e m) : XT c X W e m := let ⟨_, p, s⟩ := h; ⟨_, p.pt, s⟩
theorem xw_and1 {m : MB} (h : XT c X W a m) : XW c X W (.BoolOp .And [a] pos) m := let ⟨_, p, s⟩ := h; ⟨_, pw_and1 p, s⟩
theorem xw_or1 {m : MB} (h : XT c X W a m) : XW c X W (.BoolOp .Or [a] pos) m := let ⟨_, p, s⟩ := h; ⟨_, pw_or1 p, s⟩
theorem xw_and {m n : MB} {r : List Expr} (h : XT c X W a m) (h' : XW c X W (.BoolOp .And (b :: r) pos) n) : XW c X W (.BoolOp .And (a :: b :: r) pos) (mAndT m n) := let ⟨_, p, s⟩ := h; let ⟨_, p', s'⟩ := h'; ⟨_, pw_and p p', s.and s'⟩
theorem xw_or {m n : MB} {r : List Expr} (h : XT c X W a m) (h' : XW c X W (.BoolOp .Or (b :: r) pos) n) : XW c X W (.BoolOp .Or (a :: b :: r) pos) (mOrT m n) := let ⟨_, p, s⟩ := h; let ⟨_, p', s'⟩ := h'; ⟨_, pw_or p p', s.or s'⟩
theorem xt_not {m : MB} (h : XT c X W a m) : XT c X W (.UnaryOp .Not a pos) (mNotT m) := let ⟨_, p, s⟩ := h; ⟨_, pt_not p, s.not⟩
end
/-! ### .. as values -/
def mAndV (m n : MD) : MD := fun env => (m env).bind fun d e => match d with
  | .bl true => n e
  | .bl false => .ok (.bl false) e
  | _ => .bad
def mOrV (m n : MD) : MD := fun env => (m env).bind fun d e => match d with
  | .bl true => .ok (.bl true) e
  | .bl false => n e
  | _ => .bad
def mNotV (m : MD) : MD := fun env => (m env).bind fun d e => match d with
  | .bl b => .ok (.bl (!b)) e
  | _ => .bad
def mIf {α : Type} (t : MB) (m n : Env → Rs α) : Env → Rs α := fun env => (t env).bind fun b e => if b = true then m e else n e
section
variable {G : Gx} {W : WX} {tt : TT} {ta tb : TE}
theorem SD.and {m n : MD} (h : SD G W ta m) (h' : SD G W tb n) : SD G W (tAndV ta tb) (mAndV m n) := ⟨fun P M F env σ H Q y x q => h.run P M F env σ H _ y x (by
  unfold mAndV at q
  cases e : m env with
  | bad => rw [e] at q; exact q.elim
  | exc z e' => rw [e] at q; exact q
  | ok d e' =>
    rw [e, Rs.bind_ok] at q
    intro P' M' v H' a y' r x'
    cases d with
    | bl b =>
      cases b with
      | false => exact ⟨false, r, q P' M' (.bl false) H' a y' rfl x'⟩
      | true =>
        refine ⟨true, r, ?_⟩
        rw [if_pos rfl]
        refine h'.run P' M' F e' σ H' Q y' x' ?_
        dsimp only at q
        cases e2 : n e' with
        | bad => rw [e2] at q; exact q
        | exc z e3 => rw [e2] at q; exact XP.mono q a
        | ok b e3 => rw [e2] at q; exact fun P2 M2 v H2 a2 => q P2 M2 v H2 (a.trans a2)
    | _ => exact q.elim)⟩
theorem SD.or {m n : MD} (h : SD G W ta m) (h' : SD G W tb n) : SD G W (tOrV ta tb) (mOrV m n) := ⟨fun P M F env σ H Q y x q => h.run P M F env σ H _ y x (by
  unfold mOrV at q
  cases e : m env with
  | bad => rw [e] at q; exact q.elim
  | exc z e' => rw [e] at q; exact q
  | ok d e' =>
    rw [e, Rs.bind_ok] at q
    intro P' M' v H' a y' r x'
    cases d with
    | bl b =>
      cases b with
      | true => exact ⟨true, r, q P' M' (.bl true) H' a y' rfl x'⟩
      | false =>
        refine ⟨false, r, ?_⟩
        rw [if_neg (by decide)]
        refine h'.run P' M' F e' σ H' Q y' x' ?_
        dsimp only at q
        cases e2 : n e' with
        | bad => rw [e2] at q; exact q
        | exc z e3 => rw [e2] at q; exact XP.mono q a
        | ok b e3 => rw [e2] at q; exact fun P2 M2 v H2 a2 => q P2 M2 v H2 (a.trans a2)
    | _ => exact q.elim)⟩
theorem SD.not {m : MD} (h : SD G W ta m) : SD G W (tNotV ta) (mNotV m) := ⟨fun P M F env σ H Q y x q => h.run P M F env σ H _ y x (by
  unfold mNotV at q
  cases e : m env with
  | bad => rw [e] at q; exact q.elim
  | exc z e' => rw [e] at q; exact q
  | ok d e' =>
    rw [e, Rs.bind_ok] at q
    intro P' M' v H' a y' r x'
    cases d with
    | bl b => exact ⟨b, r, q P' M' _ H' a y' rfl x'⟩
    | _ => exact q.elim)⟩
theorem SD.if_ {t : MB} {m n : MD} (h0 : ST G W tt t) (h : SD G W ta m) (h' : SD G W tb n) : SD G W (tIf tt ta tb) (mIf t m n) := ⟨fun P M F env σ H Q y x q => h0.run P M F env σ H _ y x (by
  unfold mIf at q
  cases e : t env with
  | bad => rw [e] at q; exact q.elim
  | exc z e' => rw [e] at q; exact q
  | ok b e' =>
    rw [e, Rs.bind_ok] at q
    intro P' M' H' a y' x'
    cases b with
    | true =>
      rw [if_pos rfl] at q ⊢
      refine h.run P' M' F e' σ H' Q y' x' ?_
      cases e2 : m e' with
      | bad => rw [e2] at q; exact q
      | exc z e3 => rw [e2] at q; exact XP.mono q a
      | ok b e3 => rw [e2] at q; exact fun P2 M2 v H2 a2 => q P2 M2 v H2 (a.trans a2)
    | false =>
      rw [if_neg (by decide)] at q ⊢
      refine h'.run P' M' F e' σ H' Q y' x' ?_
      cases e2 : n e' with
      | bad => rw [e2] at q; exact q
      | exc z e3 => rw [e2] at q; exact XP.mono q a
      | ok b e3 => rw [e2] at q; exact fun P2 M2 v H2 a2 => q P2 M2 v H2 (a.trans a2))⟩
end
section
variable {c : Nat → Addr} {X : Cx} {W : WX} {pos : Pos} {a b e : Expr}
theorem xd_one {op} {m : MD} (h : XD c X W a m) : XD c X W (.BoolOp op [a] pos) m := let ⟨_, p, s⟩ := h; ⟨_, pe_one p, s⟩
theorem xd_and {m n : MD} {r : List Expr} (h : XD c X W a m) (h' : XD c X W (.BoolOp .And (b :: r) pos) n) : XD c X W (.BoolOp .And (a :: b :: r) pos) (mAndV m n) := let ⟨_, p, s⟩ := h; let ⟨_, p', s'⟩ := h'; ⟨_, pe_and p p', s.and s'⟩
theorem xd_or {m n : MD} {r : List Expr} (h : XD c X W a m) (h' : XD c X W (.BoolOp .Or (b :: r) pos) n) : XD c X W (.BoolOp .Or (a :: b :: r) pos) (mOrV m n) := let ⟨_, p, s⟩ := h; let ⟨_, p', s'⟩ := h'; ⟨_, pe_or p p', s.or s'⟩
theorem xd_not {m : MD} (h : XD c X W a m) : XD c X W (.UnaryOp .Not a pos) (mNotV m) := let ⟨_, p, s⟩ := h; ⟨_, pe_not p, s.not⟩
theorem xd_if {t : MB} {m n : MD} (h0 : XT c X W e t) (h : XD c X W a m) (h' : XD c X W b n) : XD c X W (.IfExp e a b pos) (mIf t m n) := let ⟨_, p0, s0⟩ := h0; let ⟨_, p, s⟩ := h; let ⟨_, p', s'⟩ := h'; ⟨_, pe_ifExp p0 p p', SD.if_ s0 s s'⟩
end
end NS
namespace NS
open PySem L2

/-! ### arguments -/
abbrev MA := Env → Rs (List Op)
abbrev MDs := Env → Rs (List D)
def OpsOk (G : Gx) (P : Hp) (σ : St) : List Op → List V → Cells → Prop
  | [], vs, h => vs = [] ∧ h = []
  | o :: os, vs, h => ∃ v r h1 h2, vs = v :: r ∧ h = h1 ++ h2 ∧ OpOk G P σ o v h1 ∧ OpsOk G P σ os r h2
theorem OpsOk.mono {G : Gx} {P P' : Hp} {σ : St} (e : Ex P P') : ∀ {os : List Op} {vs : List V} {h : Cells}, OpsOk G P σ os vs h → OpsOk G P' σ os vs h
  | [], _, _, x => x
  | _ :: _, _, _, ⟨v, r, h1, h2, a, b, x, y⟩ => ⟨v, r, h1, h2, a, b, x.mono e, OpsOk.mono e y⟩
def Views (G : Gx) (P H : Hp) : List T → List V → Prop
  | [], vs => vs = []
  | t :: ts, vs => ∃ v r, vs = v :: r ∧ View G P H t v ∧ Views G P H ts r
def atAll (env : Env) : List Op → Option (List T)
  | [] => some []
  | o :: os => (o.at env).bind fun t => (atAll env os).bind fun ts => some (t :: ts)
theorem OpsOk.views {G : Gx} {P H : Hp} {σ : St} {env : Env} {M : Cells} (y : EnvOk G P env σ M) (hM : ∀ z ∈ M, H z.1 = some z.2) : ∀ {os : List Op} {vs : List V} {h : Cells} {ts : List T}, OpsOk G P σ os vs h → (∀ z ∈ h, H z.1 = some z.2) → atAll env os = some ts → Views G P H ts vs
  | [], _, _, ts, x, _, e => by simp [atAll] at e; subst e; exact x.1
  | o :: os, _, _, ts, ⟨v, r, h1, h2, a, b, x, z⟩, hh, e => by
    obtain ⟨t, e1, e⟩ := obind e
    obtain ⟨us, e2, e⟩ := obind e
    cases e
    rw [b] at hh
    exact ⟨v, r, a, x.view y (fun z hz => hh z (List.mem_append_left _ hz)) hM e1, OpsOk.views y hM z (fun z hz => hh z (List.mem_append_right _ hz)) e2⟩
structure SA (G : Gx) (W : WX) (ta : TA) (m : MA) : Prop where
  run : ∀ P M F env σ H Q, EnvOk G P env σ M → Hold P (M ++ F) H → (match m env with
    | .ok os env' => ∀ P' M' vs h H', Ex P P' → EnvOk G P' env' σ M' → OpsOk G P' σ os vs h → Hold P' (h ++ (M' ++ F)) H' → Q vs H'
    | .exc x env' => XP G W P F (· = σ) x env'
    | .bad => False) → ta σ H Q
structure SDs (G : Gx) (W : WX) (ta : TA) (m : MDs) : Prop where
  run : ∀ P M F env σ H Q, EnvOk G P env σ M → Hold P (M ++ F) H → (match m env with
    | .ok ds env' => ∀ P' M' vs H', Ex P P' → EnvOk G P' env' σ M' → Reps G P' ds vs → Hold P' (M' ++ F) H' → Q vs H'
    | .exc x env' => XP G W P F (· = σ) x env'
    | .bad => False) → ta σ H Q
def XA (c : Nat → Addr) (X : Cx) (W : WX) (es : List Expr) (m : MA) : Prop := ∃ ta, PA X es ta ∧ SA ⟨X.K, c⟩ W ta m
def XDs (c : Nat → Addr) (X : Cx) (W : WX) (es : List Expr) (m : MDs) : Prop := ∃ ta, PA X es ta ∧ SDs ⟨X.K, c⟩ W ta m
def aNil : MA := fun env => .ok [] env
def aCons (m : MO) (r : MA) : MA := fun env => (m env).bind fun o e => (r e).bind fun os e2 => .ok (o :: os) e2
def dNil : MDs := fun env => .ok [] env
def dCons (m : MD) (r : MDs) : MDs := fun env => (m env).bind fun o e => (r e).bind fun os e2 => .ok (o :: os) e2
section
variable {G : Gx} {W : WX} {te : TE} {ta : TA}
theorem SA.nil : SA G W tNil aNil := ⟨fun P M F env σ H Q y x q => q P M [] [] H (Ex.refl P) y ⟨rfl, rfl⟩ x⟩
theorem SDs.nil : SDs G W tNil dNil := ⟨fun P M F env σ H Q y x q => q P M [] H (Ex.refl P) y rfl x⟩
theorem SA.cons {m : MO} {r : MA} (h : SO G W te m) (h' : SA G W ta r) : SA G W (tCons te ta) (aCons m r) := ⟨fun P M F env σ H Q y x q => by
  unfold aCons at q
  refine h.run P M F env σ H _ y x ?_
  cases e1 : m env with
  | bad => rw [e1] at q; exact q.elim
  | exc z e' => rw [e1] at q; exact q
  | ok o1 env1 =>
    rw [e1, Rs.bind_ok] at q
    intro P1 M1 v1 h1 H1 x1 y1 z1 w1
    refine h'.run P1 M1 (h1 ++ F) env1 σ H1 _ y1 (w1.perm (perm_by fun a => by simp only [List.count_append]; omega)) ?_
    cases e2 : r env1 with
    | bad => rw [e2] at q; exact q.elim
    | exc z e' => rw [e2] at q; exact (XP.mono q x1).wide
    | ok o2 env2 =>
      rw [e2, Rs.bind_ok] at q
      intro P2 M2 v2 h2 H2 x2 y2 z2 w2
      exact q P2 M2 (v1 :: v2) (h1 ++ h2) H2 (x1.trans x2) y2 ⟨v1, v2, h1, h2, rfl, rfl, z1.mono x2, z2⟩ (w2.perm (perm_by fun a => by simp only [List.count_append]; omega))⟩
theorem SDs.cons {m : MD} {r : MDs} (h : SD G W te m) (h' : SDs G W ta r) : SDs G W (tCons te ta) (dCons m r) := ⟨fun P M F env σ H Q y x q => by
  unfold dCons at q
  refine h.run P M F env σ H _ y x ?_
  cases e1 : m env with
  | bad => rw [e1] at q; exact q.elim
  | exc z e' => rw [e1] at q; exact q
  | ok o1 env1 =>
    rw [e1, Rs.bind_ok] at q
    intro P1 M1 v1 H1 x1 y1 z1 w1
    refine h'.run P1 M1 F env1 σ H1 _ y1 w1 ?_
    cases e2 : r env1 with
    | bad => rw [e2] at q; exact q.elim
    | exc z e' => rw [e2] at q; exact XP.mono q x1
    | ok o2 env2 =>
      rw [e2, Rs.bind_ok] at q
      intro P2 M2 v2 H2 x2 y2 z2 w2
      exact q P2 M2 (v1 :: v2) H2 (x1.trans x2) y2 ⟨v1, v2, rfl, z1.mono x2, z2⟩ w2⟩
end
section
variable {c : Nat → Addr} {X : Cx} {W : WX} {pos : Pos} {e : Expr} {es : List Expr}
theorem xa_nil : XA c X W [] aNil := ⟨_, pa_nil, SA.nil⟩
theorem xa_cons {m : MO} {r : MA} (h : XO c X W e m) (h' : XA c X W es r) (hs : starEach (e :: es) X.env = (false, eval e X.env) :: starEach es X.env := by rfl) : XA c X W (e :: es) (aCons m r) := let ⟨_, p, s⟩ := h; let ⟨_, p', s'⟩ := h'; ⟨_, pa_cons p p' hs, SA.cons s s'⟩
theorem xds_nil : XDs c X W [] dNil := ⟨_, pa_nil, SDs.nil⟩
theorem xds_cons {m : MD} {r : MDs} (h : XD c X W e m) (h' : XDs c X W es r) (hs : starEach (e :: es) X.env = (false, eval e X.env) :: starEach es X.env := by rfl) : XDs c X W (e :: es) (dCons m r) := let ⟨_, p, s⟩ := h; let ⟨_, p', s'⟩ := h'; ⟨_, pa_cons p p' hs, SDs.cons s s'⟩
end

/-! ### displays -/
def mLst (m : MDs) : ME := fun env => (m env).bind fun ds e => if ds.length ≤ sizeLine then .ok (.l ds) e else .bad
def mTup (m : MDs) : MD := fun env => (m env).bind fun ds e => if ds.length ≤ sizeLine then .ok (.tup ds) e else .bad
section
variable {G : Gx} {W : WX} {ta : TA}
theorem SDs.lst {m : MDs} (h : SDs G W ta m) : SE G W (tLst ta) (mLst m) := ⟨fun P M F env σ H Q y x q => h.run P M F env σ H _ y x (by
  unfold mLst at q
  cases e1 : m env with
  | bad => rw [e1] at q; exact q.elim
  | exc z e' => rw [e1] at q; exact q
  | ok ds env1 =>
    rw [e1, Rs.bind_ok] at q
    intro P1 M1 vs H1 x1 y1 z1 w1
    by_cases hl : ds.length ≤ sizeLine
    · rw [if_pos hl] at q
      exact ⟨by rw [z1.len]; exact hl, ans_l w1 z1 fun P2 v h H2 x2 o2 w2 => q P2 M1 v h H2 (x1.trans x2) (y1.mono x2) o2 w2⟩
    · rw [if_neg hl] at q; exact q.elim)⟩
theorem SDs.tup {m : MDs} (h : SDs G W ta m) : SD G W (tTup ta) (mTup m) := ⟨fun P M F env σ H Q y x q => h.run P M F env σ H _ y x (by
  unfold mTup at q
  cases e1 : m env with
  | bad => rw [e1] at q; exact q.elim
  | exc z e' => rw [e1] at q; exact q
  | ok ds env1 =>
    rw [e1, Rs.bind_ok] at q
    intro P1 M1 vs H1 x1 y1 z1 w1
    by_cases hl : ds.length ≤ sizeLine
    · rw [if_pos hl] at q
      exact ⟨by rw [z1.len]; exact hl, ans_t w1 z1 fun P2 v h H2 x2 o2 w2 => by
        obtain ⟨rfl, r⟩ := o2
        exact q P2 M1 v H2 (x1.trans x2) (y1.mono x2) r w2⟩
    · rw [if_neg hl] at q; exact q.elim)⟩
end
section
variable {c : Nat → Addr} {X : Cx} {W : WX} {pos : Pos} {es : List Expr}
theorem xe_lst {m : MDs} (h : XDs c X W es m) : XE c X W (.List es pos) (mLst m) := let ⟨_, p, s⟩ := h; ⟨_, pe_lst p, s.lst⟩
theorem xd_tup {m : MDs} {k} (h : XDs c X W es m) : XD c X W (.Tuple es k pos) (mTup m) := let ⟨_, p, s⟩ := h; ⟨_, pe_tup p, s.tup⟩
end

/-! ### items, slices -/
theorem atI_len {α β : Type} {xs : List α} {ys : List β} {i : Int} {y : β} (h : atI ys i = some y) (e : xs.length = ys.length) : ∃ j, ixN xs.length i = some j ∧ ys[j]? = some y := by
  unfold atI at h
  obtain ⟨j, h1, h2⟩ := obind h
  exact ⟨j, by rw [e]; exact h1, h2⟩
theorem Reps.atI {G : Gx} {P : Hp} {ds : List D} {vs : List V} {i : Int} {d : D} (r : Reps G P ds vs) (h : L2.atI ds i = some d) : ∃ v, L2.atI vs i = some v ∧ Rep G P d v := by
  obtain ⟨j, h1, h2⟩ := atI_len (xs := vs) h r.len
  obtain ⟨v, e, q⟩ := r.get h2
  exact ⟨v, by unfold L2.atI; rw [h1]; exact e, q⟩
def fIxL (s t : T) : Option T := (s.lst?).bind fun xs => (t.int?).bind fun i => (atI xs i).bind fun d => some (.d d)
def fIxT (s t : T) : Option T := (s.tup?).bind fun xs => (t.int?).bind fun i => (atI xs i).bind fun d => some (.d d)
def fIxS (s t : T) : Option T := (s.str?).bind fun z => (t.int?).bind fun i => if z.length ≤ sizeLine then (atI z.cps.toList i).bind fun c => some (.d (.str ⟨#[c]⟩)) else none
def bIx : T → T → Option T := orE fIxL (orE fIxT fIxS)
@[simp] theorem orE_none {f g : T → T → Option T} {s t : T} (h : f s t = none) : orE f g s t = g s t := by unfold orE; rw [h]
theorem bIx_l (xs : List D) (i : Int) : bIx (.l xs) (.d (.int i)) = (atI xs i).map T.d := by
  unfold bIx orE fIxL
  simp only [lst?_l, int?_d, Option.bind_some]
  cases atI xs i <;> rfl
theorem bIx_d (xs : List D) (i : Int) : bIx (.d (.lst xs)) (.d (.int i)) = (atI xs i).map T.d := by
  unfold bIx orE fIxL
  simp only [lst?_d, int?_d, Option.bind_some]
  cases atI xs i <;> rfl
theorem bIx_ro (xs : List D) (i : Int) : bIx (.d (.ro xs)) (.d (.int i)) = (atI xs i).map T.d := by
  unfold bIx orE fIxL
  simp only [lst?_ro, int?_d, Option.bind_some]
  cases atI xs i <;> rfl
theorem bIx_t (xs : List D) (i : Int) : bIx (.d (.tup xs)) (.d (.int i)) = (atI xs i).map T.d := by
  unfold bIx orE fIxL fIxT
  simp only [T.lst?, tup?_d, int?_d, Option.bind_some, Option.bind_none]
  cases atI xs i <;> rfl
section
variable {G : Gx}
theorem ixL : Op2S G (rIxL G.K) fIxL := by
  intro P F v1 v2 t1 t2 t H Q a b c d q
  obtain ⟨x, e1, d⟩ := obind d
  obtain ⟨i, e2, d⟩ := obind d
  obtain ⟨y, e3, d⟩ := obind d
  cases d
  obtain ⟨p, vs, rfl, s, r⟩ := a.lst c.ex e1
  obtain ⟨v, e4, r4⟩ := r.atI e3
  exact ⟨p, vs, i, v, rfl, b.int e2, s, e4, ans_d c r4 q⟩
theorem ixT : Op2S G (rIxT G.K) fIxT := by
  intro P F v1 v2 t1 t2 t H Q a b c d q
  obtain ⟨x, e1, d⟩ := obind d
  obtain ⟨i, e2, d⟩ := obind d
  obtain ⟨y, e3, d⟩ := obind d
  cases d
  obtain ⟨p, vs, rfl, s, r⟩ := a.tup c.ex e1
  obtain ⟨v, e4, r4⟩ := r.atI e3
  exact ⟨p, vs, i, v, rfl, b.int e2, s, e4, ans_d c r4 q⟩
theorem ixS : Op2S G rIxS fIxS := by
  intro P F v1 v2 t1 t2 t H Q a b c d q
  obtain ⟨x, e1, d⟩ := obind d
  obtain ⟨i, e2, d⟩ := obind d
  split at d
  · rename_i hl
    obtain ⟨y, e3, d⟩ := obind d
    cases d
    exact ⟨x, i, y, a.str e1, b.int e2, hl, e3, ans_d (d := .str _) c rfl q⟩
  · cases d
theorem ix_all : Op2S G (rIx G.K) bIx := Op2S.or ixL (Op2S.or ixT ixS)
end
/-- slices -/
abbrev MI := Env → Rs (Option Int)
structure SI (G : Gx) (W : WX) (to : TO) (m : MI) : Prop where
  run : ∀ P M F env σ H Q, EnvOk G P env σ M → Hold P (M ++ F) H → (match m env with
    | .ok i env' => ∀ P' M' H', Ex P P' → EnvOk G P' env' σ M' → Hold P' (M' ++ F) H' → Q i H'
    | .exc x env' => XP G W P F (· = σ) x env'
    | .bad => False) → to σ H Q
def XI (c : Nat → Addr) (X : Cx) (W : WX) (e : Option Expr) (m : MI) : Prop := ∃ to, PO X e to ∧ SI ⟨X.K, c⟩ W to m
def iNone : MI := fun env => .ok none env
def iSome (m : MD) : MI := fun env => (m env).bind fun d e => match d with
  | .int i => .ok (some i) e
  | _ => .bad
def cutD (xs : List D) (lo hi : Option Int) : List D := (xs.drop (HT.sIx xs.length 0 lo)).take (HT.sIx xs.length xs.length hi - HT.sIx xs.length 0 lo)
theorem Reps.cut {G : Gx} {P : Hp} {ds : List D} {vs : List V} (r : Reps G P ds vs) (lo hi : Option Int) : Reps G P (cutD ds lo hi) (cutV vs lo hi) := by
  unfold cutD cutV
  rw [r.len]
  exact (r.drop _).take _
def bSl (s : T) (lo hi : Option Int) : Option T := match s with
  | .l xs => some (.l (cutD xs lo hi))
  | .d (.lst xs) => some (.l (cutD xs lo hi))
  | .d (.ro xs) => some (.l (cutD xs lo hi))
  | .d (.tup xs) => some (.d (.tup (cutD xs lo hi)))
  | .d (.str z) => if z.length ≤ sizeLine then some (.d (.str (cutS z lo hi))) else none
  | _ => none
def mSl (m : MO) (lo hi : MI) : ME := fun env => (m env).bind fun o e1 => (lo e1).bind fun l e2 => (hi e2).bind fun h e3 => Rs.of ((o.at e3).bind fun s => bSl s l h) e3
section
variable {G : Gx} {W : WX} {te : TE} {tl th : TO}
theorem SI.none : SI G W tNoPart iNone := ⟨fun P M F env σ H Q y x q => q P M H (Ex.refl P) y x⟩
theorem SI.some {m : MD} (h : SD G W te m) : SI G W (tPart te) (iSome m) := ⟨fun P M F env σ H Q y x q => h.run P M F env σ H _ y x (by
  unfold iSome at q
  cases e1 : m env with
  | bad => rw [e1] at q; exact q.elim
  | exc z e' => rw [e1] at q; exact q
  | ok d env1 =>
    rw [e1, Rs.bind_ok] at q
    intro P1 M1 v H1 x1 y1 z1 w1
    cases d with
    | int i => exact ⟨i, z1, q P1 M1 H1 x1 y1 w1⟩
    | _ => exact q.elim)⟩
/-- what a slice's rule is to give -/
def rSlX (K : PySem.W.Frag) : V → Option Int → Option Int → Hp → VK → Prop := fun x lo hi H Q => rSlL K x lo hi H Q ∨ rSlA K x lo hi H Q ∨ rSlS x lo hi H Q
theorem cutAll (xs : List D) (lo hi : Option Int) (h : HT.sIx xs.length 0 lo = 0 ∧ HT.sIx xs.length xs.length hi = xs.length) : cutD xs lo hi = xs := by
  unfold cutD
  rw [h.1, h.2]
  simp
theorem SO.sl {m : MO} {lo hi : MI} (h : SO G W te m) (h1 : SI G W tl lo) (h2 : SI G W th hi) : SE G W (tSl (rSlX G.K) te tl th) (mSl m lo hi) := ⟨fun P M F env σ H Q y x q => h.run P M F env σ H _ y x (by
  unfold mSl at q
  cases e1 : m env with
  | bad => rw [e1] at q; exact q.elim
  | exc z e' => rw [e1] at q; exact q
  | ok o env1 =>
    rw [e1, Rs.bind_ok] at q
    intro P1 M1 v k H1 x1 y1 z1 w1
    refine h1.run P1 M1 (k ++ F) env1 σ H1 _ y1 (w1.perm (perm_by fun a => by simp only [List.count_append]; omega)) ?_
    cases e2 : lo env1 with
    | bad => rw [e2] at q; exact q.elim
    | exc z e' => rw [e2] at q; exact (XP.mono q x1).wide
    | ok l env2 =>
      rw [e2, Rs.bind_ok] at q
      intro P2 M2 H2 x2 y2 w2
      refine h2.run P2 M2 (k ++ F) env2 σ H2 _ y2 w2 ?_
      cases e3 : hi env2 with
      | bad => rw [e3] at q; exact q.elim
      | exc z e' => rw [e3] at q; exact (XP.mono q (x1.trans x2)).wide
      | ok u env3 =>
        rw [e3, Rs.bind_ok] at q
        intro P3 M3 H3 x3 y3 w3
        cases e4 : (o.at env3).bind fun s => bSl s l u with
        | none => rw [e4] at q; exact q.elim
        | some t =>
          rw [e4] at q
          obtain ⟨s, a1, e5⟩ := obind e4
          have vw : View G P3 H3 s v := ((z1.mono x2).mono x3).view y3 (fun z hz => w3.at_ z (List.mem_append_right _ (List.mem_append_left _ hz))) (fun z hz => w3.at_ z (List.mem_append_left _ hz)) a1
          have w4 : Hold P3 (M3 ++ F) H3 := Hold.dropL (M := k) (w3.perm (perm_by fun a => by simp only [List.count_append]; omega))
          have fin : ∀ P4 v h H4, Ex P3 P4 → Own G P4 t v h → Hold P4 (h ++ (M3 ++ F)) H4 → Q v H4 := fun P4 v h H4 x4 o4 w5 => q P4 M3 v h H4 (((x1.trans x2).trans x3).trans x4) (y3.mono x4) o4 w5
          have lst : ∀ xs, s.lst? = some xs → t = .l (cutD xs l u) → rSlX G.K v l u H3 Q := fun xs hs et => by
            obtain ⟨p, vs, rfl, sq, r⟩ := vw.lst w4.ex hs
            subst et
            exact .inl ⟨p, vs, rfl, sq, ans_l w4 (r.cut l u) fin⟩
          cases s with
          | l xs => simp only [bSl, Option.some.injEq] at e5; exact lst xs rfl e5.symm
          | d w =>
            cases w with
            | lst xs => simp only [bSl, Option.some.injEq] at e5; exact lst xs rfl e5.symm
            | ro xs => simp only [bSl, Option.some.injEq] at e5; exact lst xs rfl e5.symm
            | tup xs =>
              simp only [bSl, Option.some.injEq] at e5
              subst e5
              obtain ⟨_, ⟨_, p, vs, rfl, sq, r⟩, _⟩ := vw
              refine .inr (.inl ⟨p, vs, rfl, Evl.ex_t w4.ex sq, fun hw => ?_, fun _ => ans_t w4 (r.cut l u) fin⟩)
              rw [r.len] at hw
              rw [cutAll xs l u hw] at fin
              exact ans_d (d := .tup xs) w4 ⟨p, vs, rfl, sq, r⟩ fin
            | str z =>
              obtain ⟨hz, e5⟩ := ife e5
              subst e5
              cases vw.str (i := z) rfl
              exact .inr (.inr ⟨z, rfl, hz, ans_d (d := .str _) w4 rfl fin⟩)
            | _ => simp [bSl] at e5
          | _ => simp [bSl] at e5)⟩
end
section
variable {c : Nat → Addr} {X : Cx} {W : WX} {pos p2 : Pos} {a b e : Expr} {lo hi : Option Expr}
theorem xi_none : XI c X W none iNone := ⟨_, po_none, SI.none⟩
theorem xi_some {m : MD} (h : XD c X W e m) : XI c X W (some e) (iSome m) := let ⟨_, p, s⟩ := h; ⟨_, po_some p, SI.some s⟩
theorem xe_ix {ma mb : MO} (ha : XO c X W a ma) (hb : XO c X W b mb) (hs : PlainIx b := by intro _ _; rfl) : XE c X W (.Subscript a b pos) (mOp2 bIx ma mb) :=
  let ⟨_, p1, s1⟩ := ha; let ⟨_, p2, s2⟩ := hb; ⟨_, pe_ix ix_seq p1 p2 hs, SO.op2 ix_all s1 s2⟩
theorem xe_sl {m : MO} {ml mh : MI} (h : XO c X W e m) (h1 : XI c X W lo ml) (h2 : XI c X W hi mh) : XE c X W (.Subscript e (.Slice lo hi none p2) pos) (mSl m ml mh) :=
  let ⟨_, q0, s0⟩ := h; let ⟨_, q1, s1⟩ := h1; let ⟨_, q2, s2⟩ := h2; ⟨_, pe_slice (SlR.or sl_list (SlR.or sl_tupA sl_str)) q0 q1 q2, s0.sl s1 s2⟩
end
end NS
namespace NS
open PySem L2

/-! ### calls of built-ins -/
def mCB (f : List T → Option T) (m : MA) : ME := fun env => (m env).bind fun os e => Rs.of ((atAll e os).bind f) e
def OpnS (G : Gx) (r : List V → Hp → VK → Prop) (f : List T → Option T) : Prop := ∀ (P : Hp) (F : Cells) (vs : List V) (ts : List T) (t : T) (H : Hp) (Q : VK), Views G P H ts vs → Hold P F H → f ts = some t →
  (∀ P' v h H', Ex P P' → Own G P' t v h → Hold P' (h ++ F) H' → Q v H') → r vs H Q
theorem SA.cb {G : Gx} {W : WX} {ta : TA} {m : MA} {r : List V → Hp → VK → Prop} {f : List T → Option T} (hr : OpnS G r f) (h : SA G W ta m) : SE G W (tCB r ta) (mCB f m) := ⟨fun P M F env σ H Q y x q => h.run P M F env σ H _ y x (by
  unfold mCB at q
  cases e1 : m env with
  | bad => rw [e1] at q; exact q.elim
  | exc z e' => rw [e1] at q; exact q
  | ok os env1 =>
    rw [e1, Rs.bind_ok] at q
    intro P1 M1 vs h1 H1 x1 y1 z1 w1
    cases e3 : ((atAll env1 os).bind f) with
    | none => rw [e3] at q; exact q.elim
    | some t =>
      rw [e3] at q
      obtain ⟨ts, a1, e4⟩ := obind e3
      have vw : Views G P1 H1 ts vs := OpsOk.views y1 (fun z hz => w1.at_ z (List.mem_append_right _ (List.mem_append_left _ hz))) z1 (fun z hz => w1.at_ z (List.mem_append_left _ hz)) a1
      exact hr P1 (M1 ++ F) vs ts t H1 Q vw w1.dropL e4 fun P3 v h H3 x3 z3 w4 => q P3 M1 v h H3 (x1.trans x3) (y1.mono x3) z3 w4)⟩
theorem CallR.or {X : Cx} {f : Value} {r r' : List V → Hp → VK → Prop} (h : CallR X f r) (h' : CallR X f r') : CallR X f (fun xs H Q => r xs H Q ∨ r' xs H Q) := by
  intro pins s σ H xs us Q I rx q
  rcases q with q | q
  · exact h pins s σ H xs us Q I rx q
  · exact h' pins s σ H xs us Q I rx q
section
variable {c : Nat → Addr} {X : Cx} {W : WX} {p pos : Pos} {e : Expr} {es : List Expr} {m : MA} {r : List V → Hp → VK → Prop} {f : List T → Option T}
theorem xe_cb {id : String} {x : Str} (hc : CallR X (.builtin id) r) (hs : OpnS ⟨X.K, c⟩ r f) (hg : Gl X x) (hm : X.mg x = none) (hv : bootBuiltins x = some (.builtin id)) (ha : XA c X W (e :: es) m) (hn : x ≠ "__name__" := by decide) (hdb : (x == ("__debug__" : Str)) = false := by decide)
    (he : starEach (e :: es) X.env = (false, eval e X.env) :: starEach es X.env := by rfl) (hpl : (backTo pos (starEach es X.env)).any (·.1) = false := by rfl) : XE c X W (.Call (.Name x p) (e :: es) [] pos) (mCB f m) :=
  let ⟨_, p, s⟩ := ha; ⟨_, pe_callB hc hg hm hv p hn hdb he hpl, SA.cb hs s⟩
theorem xe_cty {T : String} {x : Str} (hc : CallR X (.type T) r) (hs : OpnS ⟨X.K, c⟩ r f) (hg : Gl X x) (hm : X.mg x = none) (hv : bootBuiltins x = some (.type T)) (ha : XA c X W (e :: es) m) (hn : x ≠ "__name__" := by decide) (hdb : (x == ("__debug__" : Str)) = false := by decide)
    (he : starEach (e :: es) X.env = (false, eval e X.env) :: starEach es X.env := by rfl) (hpl : (backTo pos (starEach es X.env)).any (·.1) = false := by rfl) : XE c X W (.Call (.Name x p) (e :: es) [] pos) (mCB f m) :=
  let ⟨_, p, s⟩ := ha; ⟨_, pe_callTy hc hg hm hv p hn hdb he hpl, SA.cb hs s⟩
end
/-- one argument -/
def f1 (g : T → Option T) : List T → Option T := fun ts => match ts with
  | [t] => g t
  | _ => none
@[simp] theorem f1_one (g : T → Option T) (t : T) : f1 g [t] = g t := rfl
theorem f1_of {g : T → Option T} {ts : List T} {t : T} {G : Gx} {P H : Hp} {vs : List V} (v : Views G P H ts vs) (h : f1 g ts = some t) : ∃ s x, ts = [s] ∧ vs = [x] ∧ View G P H s x ∧ g s = some t := by
  match ts, v with
  | [s], ⟨x, r, e1, v1, v2⟩ => exact ⟨s, x, rfl, by rw [e1, show r = [] from v2], v1, h⟩
  | [], _ => cases h
  | _ :: _ :: _, _ => cases h
def bLen (t : T) : Option T := match t with
  | .d (.str s) => if s.length ≤ sizeLine then some (.d (.int s.length)) else none
  | t => (t.seq?).bind fun xs => some (.d (.int xs.length))
@[simp] theorem bLen_l (xs : List D) : bLen (.l xs) = some (.d (.int xs.length)) := rfl
@[simp] theorem bLen_d (xs : List D) : bLen (.d (.lst xs)) = some (.d (.int xs.length)) := rfl
@[simp] theorem bLen_ro (xs : List D) : bLen (.d (.ro xs)) = some (.d (.int xs.length)) := rfl
@[simp] theorem bLen_t (xs : List D) : bLen (.d (.tup xs)) = some (.d (.int xs.length)) := rfl
def bInt (t : T) : Option T := match t with
  | .d (.int i) => some (.d (.int i))
  | .d (.bl b) => some (.d (.int (if b then 1 else 0)))
  | _ => none
@[simp] theorem bInt_i (i : Int) : bInt (.d (.int i)) = some (.d (.int i)) := rfl
def bAbs (t : T) : Option T := match t with
  | .d (.int i) => some (.d (.int (if i < 0 then -i else i)))
  | _ => none
@[simp] theorem bAbs_i (i : Int) : bAbs (.d (.int i)) = some (.d (.int (if i < 0 then -i else i))) := rfl
def bList (t : T) : Option T := (t.seq?).bind fun xs => some (.l xs)
def bTuple (t : T) : Option T := (t.seq?).bind fun xs => some (.d (.tup xs))
@[simp] theorem bList_l (xs : List D) : bList (.l xs) = some (.l xs) := rfl
@[simp] theorem bList_d (xs : List D) : bList (.d (.lst xs)) = some (.l xs) := rfl
@[simp] theorem bList_ro (xs : List D) : bList (.d (.ro xs)) = some (.l xs) := rfl
@[simp] theorem bList_t (xs : List D) : bList (.d (.tup xs)) = some (.l xs) := rfl
@[simp] theorem bTuple_l (xs : List D) : bTuple (.l xs) = some (.d (.tup xs)) := rfl
@[simp] theorem bTuple_d (xs : List D) : bTuple (.d (.lst xs)) = some (.d (.tup xs)) := rfl
@[simp] theorem bTuple_t (xs : List D) : bTuple (.d (.tup xs)) = some (.d (.tup xs)) := rfl
def bls? : List D → Option (List Bool)
  | [] => some []
  | .bl b :: r => match bls? r with | some s => some (b :: s) | none => none
  | _ :: _ => none
def ints? : List D → Option (List Int)
  | [] => some []
  | .int b :: r => match ints? r with | some s => some (b :: s) | none => none
  | _ :: _ => none
def strs? : List D → Option (List Str)
  | [] => some []
  | .str b :: r => match strs? r with | some s => some (b :: s) | none => none
  | _ :: _ => none
@[simp] theorem bls?_map (bs : List Bool) : bls? (bs.map D.bl) = some bs := by
  induction bs with
  | nil => rfl
  | cons b r ih => simp [bls?, ih]
@[simp] theorem ints?_map (bs : List Int) : ints? (bs.map D.int) = some bs := by
  induction bs with
  | nil => rfl
  | cons b r ih => simp [ints?, ih]
@[simp] theorem strs?_map (bs : List Str) : strs? (bs.map D.str) = some bs := by
  induction bs with
  | nil => rfl
  | cons b r ih => simp [strs?, ih]
def bAll (t : T) : Option T := (t.lst?).bind fun xs => (bls? xs).bind fun bs => some (.d (.bl (bs.all id)))
def bAny (t : T) : Option T := (t.lst?).bind fun xs => (bls? xs).bind fun bs => some (.d (.bl (bs.any id)))
def bSum (t : T) : Option T := (t.lst?).bind fun xs => (ints? xs).bind fun bs => some (.d (.int bs.sum))
section
variable {G : Gx}
theorem Reps.bls {P : Hp} : ∀ {ds : List D} {vs : List V} {bs : List Bool}, Reps G P ds vs → bls? ds = some bs → vs = bs.map V.bl
  | [], vs, bs, h, e => by simp [bls?] at e; subst e; exact h
  | .bl b :: r, _, bs, ⟨v, w, e1, h, hr⟩, e => by
    simp only [bls?] at e
    cases q : bls? r with
    | none => rw [q] at e; cases e
    | some s => rw [q] at e; cases e; rw [e1, show v = .bl b from h, Reps.bls hr q]; rfl
  | .non :: _, _, _, _, e => by simp [bls?] at e
  | .int _ :: _, _, _, _, e => by simp [bls?] at e
  | .str _ :: _, _, _, _, e => by simp [bls?] at e
  | .lst _ :: _, _, _, _, e => by simp [bls?] at e
  | .ro _ :: _, _, _, _, e => by simp [bls?] at e
  | .tup _ :: _, _, _, _, e => by simp [bls?] at e
  | .dct _ :: _, _, _, _, e => by simp [bls?] at e
  | .obj _ _ :: _, _, _, _, e => by simp [bls?] at e
theorem Reps.ints {P : Hp} : ∀ {ds : List D} {vs : List V} {bs : List Int}, Reps G P ds vs → ints? ds = some bs → vs = bs.map V.int
  | [], vs, bs, h, e => by simp [ints?] at e; subst e; exact h
  | .int b :: r, _, bs, ⟨v, w, e1, h, hr⟩, e => by
    simp only [ints?] at e
    cases q : ints? r with
    | none => rw [q] at e; cases e
    | some s => rw [q] at e; cases e; rw [e1, show v = .int b from h, Reps.ints hr q]; rfl
  | .non :: _, _, _, _, e => by simp [ints?] at e
  | .bl _ :: _, _, _, _, e => by simp [ints?] at e
  | .str _ :: _, _, _, _, e => by simp [ints?] at e
  | .lst _ :: _, _, _, _, e => by simp [ints?] at e
  | .ro _ :: _, _, _, _, e => by simp [ints?] at e
  | .tup _ :: _, _, _, _, e => by simp [ints?] at e
  | .dct _ :: _, _, _, _, e => by simp [ints?] at e
  | .obj _ _ :: _, _, _, _, e => by simp [ints?] at e
theorem Reps.strs {P : Hp} : ∀ {ds : List D} {vs : List V} {bs : List Str}, Reps G P ds vs → strs? ds = some bs → vs = bs.map V.str
  | [], vs, bs, h, e => by simp [strs?] at e; subst e; exact h
  | .str b :: r, _, bs, ⟨v, w, e1, h, hr⟩, e => by
    simp only [strs?] at e
    cases q : strs? r with
    | none => rw [q] at e; cases e
    | some s => rw [q] at e; cases e; rw [e1, show v = .str b from h, Reps.strs hr q]; rfl
  | .non :: _, _, _, _, e => by simp [strs?] at e
  | .bl _ :: _, _, _, _, e => by simp [strs?] at e
  | .int _ :: _, _, _, _, e => by simp [strs?] at e
  | .lst _ :: _, _, _, _, e => by simp [strs?] at e
  | .ro _ :: _, _, _, _, e => by simp [strs?] at e
  | .tup _ :: _, _, _, _, e => by simp [strs?] at e
  | .dct _ :: _, _, _, _, e => by simp [strs?] at e
  | .obj _ _ :: _, _, _, _, e => by simp [strs?] at e
theorem len_s : OpnS G (fun xs H Q => ∃ x n, xs = [x] ∧ LenV G.K x H n ∧ Q (.int n) H) (f1 bLen) := by
  intro P F vs ts t H Q a c d q
  obtain ⟨s, x, rfl, rfl, v, e⟩ := f1_of a d
  have seq : ∀ xs, s.seq? = some xs → t = .d (.int xs.length) → ∃ x' n, [x] = [x'] ∧ LenV G.K x' H n ∧ Q (.int n) H := fun xs hs et => by
    obtain ⟨p, vs, rfl, sq, r⟩ := v.seq c.ex hs
    subst et
    refine ⟨_, vs.length, rfl, ?_, by rw [r.len]; exact ans_d (d := .int _) c rfl q⟩
    rcases sq with sq | sq
    · exact .inl ⟨vs, sq, rfl⟩
    · exact .inr ⟨vs, sq, rfl⟩
  cases s with
  | l xs => simp at e; exact seq xs rfl e.symm
  | d y =>
    cases y with
    | lst xs => simp at e; exact seq xs rfl e.symm
    | ro xs => simp at e; exact seq xs rfl e.symm
    | tup xs => simp at e; exact seq xs rfl e.symm
    | str z =>
      obtain ⟨h1, rfl⟩ := ife e
      cases v.str (i := z) rfl
      exact ⟨_, z.length, rfl, ⟨h1, rfl⟩, ans_d (d := .int _) c rfl q⟩
    | _ => simp [bLen, T.seq?] at e
  | _ => simp [bLen, T.seq?] at e
theorem int_s : OpnS G (fun xs H Q => (∃ i, xs = [.int i] ∧ Q (.int i) H) ∨ ∃ k, xs = [.bl k] ∧ Q (.int (if k then 1 else 0)) H) (f1 bInt) := by
  intro P F vs ts t H Q a c d q
  obtain ⟨s, x, rfl, rfl, v, e⟩ := f1_of a d
  cases s with
  | d y =>
    cases y with
    | int i => cases e; cases v.int (i := i) rfl; exact .inl ⟨i, rfl, ans_d (d := .int _) c rfl q⟩
    | bl i => cases e; cases v.bl (i := i) rfl; exact .inr ⟨i, rfl, ans_d (d := .int _) c rfl q⟩
    | _ => cases e
  | _ => cases e
theorem abs_s : OpnS G (fun xs H Q => ∃ i, xs = [.int i] ∧ Q (.int (if i < 0 then -i else i)) H) (f1 bAbs) := by
  intro P F vs ts t H Q a c d q
  obtain ⟨s, x, rfl, rfl, v, e⟩ := f1_of a d
  cases s with
  | d y =>
    cases y with
    | int i => cases e; cases v.int (i := i) rfl; exact ⟨i, rfl, ans_d (d := .int _) c rfl q⟩
    | _ => cases e
  | _ => cases e
theorem list_s : OpnS G (fun xs H Q => ∃ p ys, xs = [.ref p] ∧ (SqL G.K H p ys ∨ SqT G.K H p ys) ∧ ∀ l, H l = none → Q (.ref l) (upd H l (.lst ys))) (f1 bList) := by
  intro P F vs ts t H Q a c d q
  obtain ⟨s, x, rfl, rfl, v, e⟩ := f1_of a d
  obtain ⟨xs, e1, e⟩ := obind e
  cases e
  obtain ⟨p, vs, rfl, sq, r⟩ := v.seq c.ex e1
  exact ⟨p, vs, rfl, sq, ans_l c r q⟩
theorem tuple_s : OpnS G (fun xs H Q => ∃ p ys, xs = [.ref p] ∧ ((SqL G.K H p ys ∧ ∀ l, H l = none → Q (.ref l) (upd H l (.tup ys))) ∨ (SqT G.K H p ys ∧ Q (.ref p) H))) (f1 bTuple) := by
  intro P F vs ts t H Q a c d q
  obtain ⟨s, x, rfl, rfl, v, e⟩ := f1_of a d
  obtain ⟨xs, e1, e⟩ := obind e
  cases e
  cases s with
  | d y =>
    cases y with
    | tup ys =>
      cases e1
      obtain ⟨_, ⟨_, p, vs, rfl, sq, r⟩, _⟩ := v
      exact ⟨p, vs, rfl, .inr ⟨Evl.ex_t c.ex sq, ans_d (d := .tup _) c ⟨p, vs, rfl, sq, r⟩ q⟩⟩
    | lst ys => obtain ⟨p, vs, rfl, sq, r⟩ := v.lst (xs := ys) c.ex rfl; cases e1; exact ⟨p, vs, rfl, .inl ⟨sq, ans_t c r q⟩⟩
    | ro ys => obtain ⟨p, vs, rfl, sq, r⟩ := v.lst (xs := ys) c.ex rfl; cases e1; exact ⟨p, vs, rfl, .inl ⟨sq, ans_t c r q⟩⟩
    | _ => cases e1
  | l ys => obtain ⟨p, vs, rfl, sq, r⟩ := v.lst (xs := ys) c.ex rfl; cases e1; exact ⟨p, vs, rfl, .inl ⟨sq, ans_t c r q⟩⟩
  | _ => cases e1
theorem all_s : OpnS G (rAll G.K) (f1 bAll) := by
  intro P F vs ts t H Q a c d q
  obtain ⟨s, x, rfl, rfl, v, e⟩ := f1_of a d
  obtain ⟨xs, e1, e⟩ := obind e
  obtain ⟨bs, e2, e⟩ := obind e
  cases e
  obtain ⟨p, vs, rfl, sq, r⟩ := v.lst c.ex e1
  exact ⟨p, bs, rfl, by rw [r.bls e2] at sq; exact sq, ans_d (d := .bl _) c rfl q⟩
theorem any_s : OpnS G (rAny G.K) (f1 bAny) := by
  intro P F vs ts t H Q a c d q
  obtain ⟨s, x, rfl, rfl, v, e⟩ := f1_of a d
  obtain ⟨xs, e1, e⟩ := obind e
  obtain ⟨bs, e2, e⟩ := obind e
  cases e
  obtain ⟨p, vs, rfl, sq, r⟩ := v.lst c.ex e1
  exact ⟨p, bs, rfl, by rw [r.bls e2] at sq; exact sq, ans_d (d := .bl _) c rfl q⟩
theorem sum_s : OpnS G (rSum G.K) (f1 bSum) := by
  intro P F vs ts t H Q a c d q
  obtain ⟨s, x, rfl, rfl, v, e⟩ := f1_of a d
  obtain ⟨xs, e1, e⟩ := obind e
  obtain ⟨bs, e2, e⟩ := obind e
  cases e
  obtain ⟨p, vs, rfl, sq, r⟩ := v.lst c.ex e1
  exact ⟨p, bs, rfl, by rw [r.ints e2] at sq; exact sq, ans_d (d := .int _) c rfl q⟩
end
section
variable {c : Nat → Addr} {X : Cx} {W : WX} {p pos : Pos} {e : Expr} {m : MA}
theorem xe_len (hm : X.mg "len" = none) (ha : XA c X W [e] m) (hg : Gl X "len" := by rfl) (he : starEach [e] X.env = (false, eval e X.env) :: starEach [] X.env := by rfl) : XE c X W (.Call (.Name "len" p) [e] [] pos) (mCB (f1 bLen) m) := xe_cb call_len len_s hg hm (by decide +kernel) ha (by decide) (by decide) he
theorem xe_int (hm : X.mg "int" = none) (ha : XA c X W [e] m) (hg : Gl X "int" := by rfl) (he : starEach [e] X.env = (false, eval e X.env) :: starEach [] X.env := by rfl) : XE c X W (.Call (.Name "int" p) [e] [] pos) (mCB (f1 bInt) m) := xe_cty call_int1 int_s hg hm (by decide +kernel) ha (by decide) (by decide) he
theorem xe_abs (hm : X.mg "abs" = none) (ha : XA c X W [e] m) (hg : Gl X "abs" := by rfl) (he : starEach [e] X.env = (false, eval e X.env) :: starEach [] X.env := by rfl) : XE c X W (.Call (.Name "abs" p) [e] [] pos) (mCB (f1 bAbs) m) := xe_cb call_abs abs_s hg hm (by decide +kernel) ha (by decide) (by decide) he
theorem xe_list (hm : X.mg "list" = none) (ha : XA c X W [e] m) (hg : Gl X "list" := by rfl) (he : starEach [e] X.env = (false, eval e X.env) :: starEach [] X.env := by rfl) : XE c X W (.Call (.Name "list" p) [e] [] pos) (mCB (f1 bList) m) := xe_cty call_list_of list_s hg hm (by decide +kernel) ha (by decide) (by decide) he
theorem xe_tuple (hm : X.mg "tuple" = none) (ha : XA c X W [e] m) (hg : Gl X "tuple" := by rfl) (he : starEach [e] X.env = (false, eval e X.env) :: starEach [] X.env := by rfl) : XE c X W (.Call (.Name "tuple" p) [e] [] pos) (mCB (f1 bTuple) m) := xe_cty call_tuple_of tuple_s hg hm (by decide +kernel) ha (by decide) (by decide) he
theorem xe_all (hc : X.calm = true) (hm : X.mg "all" = none) (ha : XA c X W [e] m) (hg : Gl X "all" := by rfl) (he : starEach [e] X.env = (false, eval e X.env) :: starEach [] X.env := by rfl) : XE c X W (.Call (.Name "all" p) [e] [] pos) (mCB (f1 bAll) m) := xe_cb (cr_all hc) all_s hg hm (by decide +kernel) ha (by decide) (by decide) he
theorem xe_any (hc : X.calm = true) (hm : X.mg "any" = none) (ha : XA c X W [e] m) (hg : Gl X "any" := by rfl) (he : starEach [e] X.env = (false, eval e X.env) :: starEach [] X.env := by rfl) : XE c X W (.Call (.Name "any" p) [e] [] pos) (mCB (f1 bAny) m) := xe_cb (cr_any hc) any_s hg hm (by decide +kernel) ha (by decide) (by decide) he
theorem xe_sum (hc : X.calm = true) (hm : X.mg "sum" = none) (ha : XA c X W [e] m) (hg : Gl X "sum" := by rfl) (he : starEach [e] X.env = (false, eval e X.env) :: starEach [] X.env := by rfl) : XE c X W (.Call (.Name "sum" p) [e] [] pos) (mCB (f1 bSum) m) := xe_cb (cr_sum hc) sum_s hg hm (by decide +kernel) ha (by decide) (by decide) he
end

/-! ### isinstance -/
inductive Tn where
  | non | bl | int | str | lst | tup | dct
  deriving DecidableEq
def Tn.name : Tn → String
  | .non => "NoneType"
  | .bl => "bool"
  | .int => "int"
  | .str => "str"
  | .lst => "list"
  | .tup => "tuple"
  | .dct => "dict"
def Tn.of (t : T) : Option Tn := match t with
  | .d .non => some .non
  | .d (.bl _) => some .bl
  | .d (.int _) => some .int
  | .d (.str _) => some .str
  | .d (.lst _) => some .lst
  | .d (.ro _) => some .lst
  | .d (.tup _) => some .tup
  | .d (.dct _) => some .dct
  | .l _ => some .lst
  | .k _ => some .dct
  | _ => none
def Tn.sub (a b : Tn) : Bool := decide (a = b) || (decide (a = .bl) && decide (b = .int))
theorem kit_tn (K : PySem.W.Frag) (a b : Tn) : PySem.W.kitOne K (.type a.name) (.type b.name) = some (Tn.sub a b) := kit_ty (by cases a <;> cases b <;> decide +kernel)
def Tn.any (a : Tn) (bs : List Tn) : Bool := bs.any fun b => Tn.sub a b
theorem kit_tns (K : PySem.W.Frag) (a : Tn) : ∀ bs : List Tn, PySem.W.kitAny K (.type a.name) (bs.map fun b => Value.type b.name) = some (Tn.any a bs)
  | [] => rfl
  | b :: r => by
    refine kitAny_cons (kit_tn K a b) (fun h => ?_) (fun h => ?_)
    · rw [kit_tns K a r]
      unfold Tn.any
      rw [List.any_cons, h]; rfl
    · unfold Tn.any
      rw [List.any_cons, h]; rfl
/-- what isinstance asks of an own class -/
structure ObjK (K : PySem.W.Frag) (C : Addr) : Prop where
  cl : Cls K C
  ha : PySem.W.findIn K (.ref C) "__class__" = some (some (.builtin "object.__class__"))
  hn : PySem.W.specialIn K (.builtin "object.__class__") "__get__" = some (some (.builtin "getset_descriptor.__get__"))
  htk : PySem.W.takesIn K (.builtin "object.__class__") = some true
  hm : PySem.W.mroIn K C (.type "object") = some true
  no : ∀ b : Tn, PySem.W.kitOne K (.ref C) (.type b.name) = some false
theorem ObjK.none {K : PySem.W.Frag} {C : Addr} (o : ObjK K C) : ∀ bs : List Tn, PySem.W.kitAny K (.ref C) (bs.map fun b => Value.type b.name) = some false
  | [] => rfl
  | b :: r => kitAny_cons (o.no b) (fun _ => ObjK.none o r) (fun h => h)
/-- the answer: cs are the own classes that are known -/
def bIsi (cs : List Nat) (bs : List Tn) (t : T) : Option T := match t with
  | .d (.obj c _) => if c ∈ cs then some (.d (.bl false)) else none
  | .o c _ => if c ∈ cs then some (.d (.bl false)) else none
  | t => (Tn.of t).bind fun a => some (.d (.bl (Tn.any a bs)))
section
variable {G : Gx}
theorem View.ty {P H : Hp} {t : T} {v : V} {a : Tn} (x : View G P H t v) (e : Ex P H) (q : Tn.of t = some a) : TyX G.K H v (.type a.name) := by
  obtain ⟨_, o, hh⟩ := x
  cases t with
  | d y =>
    obtain ⟨_, r⟩ := o
    cases y with
    | non => cases q; cases (show _ = _ from r); exact .base .non
    | bl b => cases q; cases (show _ = _ from r); exact .base (.bl b)
    | int b => cases q; cases (show _ = _ from r); exact .base (.int b)
    | str b => cases q; cases (show _ = _ from r); exact .base (.str b)
    | lst b => cases q; obtain ⟨p, vs, rfl, s, r⟩ := r; exact .base (.lst (e _ _ s))
    | ro b =>
      cases q
      obtain ⟨p, vs, rfl, s, r⟩ := r
      rcases Evl.ex_l e s with (h | ⟨ob, h⟩) | ⟨ob, its, n, hk, hc, _⟩
      · exact .base (.lst h)
      · exact .base (.frz h)
      · exact .kList hk hc
    | tup b =>
      cases q
      obtain ⟨p, vs, rfl, s, r⟩ := r
      rcases Evl.ex_t e s with (h | ⟨ob, h⟩) | ⟨ob, its, n, hk, hc, _⟩
      · exact .base (.tup h)
      · exact .fTuple h
      · exact .kTuple hk hc
    | dct b => cases q; obtain ⟨p, vs, rfl, s, r⟩ := r; exact .base (.dK (e _ _ s))
    | obj _ _ => cases q
  | l xs => cases q; obtain ⟨p, vs, rfl, rfl, r⟩ := o; exact .base (.lst (hh _ List.mem_cons_self))
  | k xs => cases q; obtain ⟨p, vs, rfl, rfl, r⟩ := o; exact .base (.dK (hh _ List.mem_cons_self))
  | o _ _ => cases q
theorem View.own {P H : Hp} {t : T} {v : V} {c : Nat} (x : View G P H t v) (e : Ex P H) (q : (∃ fs, t = .d (.obj c fs)) ∨ ∃ fs, t = .o c fs) (k : ObjK G.K (G.cad c)) : TyX G.K H v (.ref (G.cad c)) := by
  obtain ⟨_, o, hh⟩ := x
  rcases q with ⟨fs, rfl⟩ | ⟨fs, rfl⟩
  · obtain ⟨_, p, dx, vs, rfl, s, r⟩ := o
    exact .base (.ins (e _ _ s) k.cl k.ha k.hn k.htk k.hm)
  · obtain ⟨p, dx, vs, rfl, rfl, r⟩ := o
    exact .base (.ins (hh _ List.mem_cons_self) k.cl k.ha k.hn k.htk k.hm)
/-- the type and the answer, whatever the thing is -/
theorem View.isi {P H : Hp} {t : T} {v : V} {cs : List Nat} {bs : List Tn} {u : T} (x : View G P H t v) (e : Ex P H) (hcs : ∀ c ∈ cs, ObjK G.K (G.cad c)) (q : bIsi cs bs t = some u) : ∃ ty b, TyX G.K H v ty ∧ PySem.W.kitAny G.K ty (bs.map fun b => Value.type b.name) = some b ∧ u = .d (.bl b) := by
  have ob : ∀ c, ((∃ fs, t = .d (.obj c fs)) ∨ ∃ fs, t = .o c fs) → (if c ∈ cs then some (T.d (.bl false)) else none) = some u → ∃ ty b, TyX G.K H v ty ∧ PySem.W.kitAny G.K ty (bs.map fun b => Value.type b.name) = some b ∧ u = .d (.bl b) := fun c h h2 => by
    obtain ⟨hc, rfl⟩ := ife h2
    exact ⟨_, false, x.own e h (hcs c hc), (hcs c hc).none bs, rfl⟩
  have bt : (Tn.of t).bind (fun a => some (T.d (.bl (Tn.any a bs)))) = some u → ∃ ty b, TyX G.K H v ty ∧ PySem.W.kitAny G.K ty (bs.map fun b => Value.type b.name) = some b ∧ u = .d (.bl b) := fun h => by
    obtain ⟨a, h1, h2⟩ := obind h
    cases h2
    exact ⟨_, _, x.ty e h1, kit_tns G.K a bs, rfl⟩
  cases t with
  | d y =>
    cases y with
    | obj c fs => exact ob c (.inl ⟨fs, rfl⟩) q
    | _ => exact bt q
  | o c fs => exact ob c (.inr ⟨fs, rfl⟩) q
  | _ => exact bt q
end
def mIsi (cs : List Nat) (bs : List Tn) (m : MO) : ME := mOp1 (bIsi cs bs) m
/-- names of built-in types -/
inductive TyNames (X : Cx) : List Expr → List Tn → Prop where
  | nil : TyNames X [] []
  | cons {x : Str} {p : Pos} {es : List Expr} {b : Tn} {bs : List Tn} (hg : Gl X x) (hm : X.mg x = none) (hv : bootBuiltins x = some (.type b.name)) (hn : x ≠ "__name__") (hd : (x == ("__debug__" : Str)) = false)
      (hs : starEach (.Name x p :: es) X.env = (false, eval (.Name x p) X.env) :: starEach es X.env) (r : TyNames X es bs) : TyNames X (.Name x p :: es) (b :: bs)
theorem TyNames.pa {X : Cx} : ∀ {es : List Expr} {bs : List Tn}, TyNames X es bs → ∃ ta, PA X es ta ∧ ∀ σ H (Q : List V → Hp → Prop), Q (bs.map fun b => V.ty b.name) H → ta σ H Q
  | _, _, .nil => ⟨_, pa_nil, fun _ _ _ q => q⟩
  | _, _, .cons hg hm hv hn hd hs r => by
    obtain ⟨ta, p, q⟩ := TyNames.pa r
    exact ⟨_, pa_cons (pe_bltn (v := .ty _) hg hm hv rfl hn hd) p hs, fun σ H Q k => q σ H _ k⟩
theorem pairs_tn (bs : List Tn) : Paired ClsV (bs.map fun b => V.ty b.name) (bs.map fun b => Value.type b.name) := by
  induction bs with
  | nil => exact .nil
  | cons b r ih => exact .cons (.ty _) ih
section
variable {c : Nat → Addr} {X : Cx} {W : WX} {p pos pt : Pos} {e : Expr} {es : List Expr} {m : MO} {cs : List Nat} {bs : List Tn} {b : Tn} {k : Nat}
/-- isinstance(x, (A, B)) -/
theorem xe_isiT (hcs : ∀ i ∈ cs, ObjK X.K (c i)) (hm : X.mg "isinstance" = none) (h : XO c X W e m) (hT : TyNames X es bs) (hl : bs.length ≤ 1000) (hg : Gl X "isinstance" := by rfl)
    (he : starEach [e, .Tuple es k pt] X.env = (false, eval e X.env) :: starEach [.Tuple es k pt] X.env := by rfl) (he2 : starEach [.Tuple es k pt] X.env = (false, eval (.Tuple es k pt) X.env) :: starEach [] X.env := by rfl) (hpl : (backTo pos (starEach [.Tuple es k pt] X.env)).any (·.1) = false := by rfl) :
    XE c X W (.Call (.Name "isinstance" p) [e, .Tuple es k pt] [] pos) (mIsi cs bs m) := by
  obtain ⟨te, p1, s1⟩ := h
  obtain ⟨ta, p2, q2⟩ := hT.pa
  refine ⟨_, pe_callB call_isiT hg hm (by decide +kernel) (pa_cons p1 (pa_cons (pe_tup p2) pa_nil he2) he) (by decide) (by decide) he hpl, ⟨fun P M F env σ H Q y x q => ?_⟩⟩
  refine s1.run P M F env σ H _ y x ?_
  unfold mIsi mOp1 at q
  cases e1 : m env with
  | bad => rw [e1] at q; exact q.elim
  | exc z e' => rw [e1] at q; exact q
  | ok o env1 =>
    rw [e1, Rs.bind_ok] at q
    intro P1 M1 v h1 H1 x1 y1 z1 w1
    cases e3 : (o.at env1).bind fun s => bIsi cs bs s with
    | none => rw [e3] at q; exact q.elim
    | some t =>
      rw [e3] at q
      obtain ⟨s, a1, e4⟩ := obind e3
      refine q2 σ H1 _ ⟨by rw [List.length_map]; exact Nat.le_trans hl (by decide), fun tp htp => ?_⟩
      have w2 : Hold P1 (h1 ++ (M1 ++ F)) (upd H1 tp (.tup (bs.map fun b => V.ty b.name))) := by
        have := (w1.newP (o := .tup (bs.map fun b => V.ty b.name)) htp)
        exact ⟨fun a u ea => by rw [upd_ne (ne_of_none (w1.ex a u ea) htp)]; exact w1.ex a u ea, this.at_, w1.nd, w1.free⟩
      have vw : View ⟨X.K, c⟩ P1 _ s v := z1.view y1 (fun z hz => w2.at_ z (List.mem_append_left _ hz)) (fun z hz => w2.at_ z (List.mem_append_right _ (List.mem_append_left _ hz))) a1
      obtain ⟨ty, b, t1, t2, rfl⟩ := vw.isi w2.ex hcs e4
      exact ⟨v, tp, _, ty, _, b, rfl, upd_same, pairs_tn bs, t1, t2, q P1 M1 (.bl b) [] _ x1 y1 ⟨rfl, rfl⟩ w2.dropL⟩
/-- isinstance(x, A) -/
theorem xe_isi {x : Str} (hcs : ∀ i ∈ cs, ObjK X.K (c i)) (hm : X.mg "isinstance" = none) (h : XO c X W e m) (hmx : X.mg x = none) (hv : bootBuiltins x = some (.type b.name)) (hgx : Gl X x := by rfl) (hg : Gl X "isinstance" := by rfl) (hn : x ≠ "__name__" := by decide) (hd : (x == ("__debug__" : Str)) = false := by decide)
    (he : starEach [e, .Name x pt] X.env = (false, eval e X.env) :: starEach [.Name x pt] X.env := by rfl) (he2 : starEach [.Name x pt] X.env = (false, eval (.Name x pt) X.env) :: starEach [] X.env := by rfl) (hpl : (backTo pos (starEach [.Name x pt] X.env)).any (·.1) = false := by rfl) :
    XE c X W (.Call (.Name "isinstance" p) [e, .Name x pt] [] pos) (mIsi cs [b] m) := by
  obtain ⟨te, p1, s1⟩ := h
  refine ⟨_, pe_callB call_isi hg hm (by decide +kernel) (pa_cons p1 (pa_cons (pe_bltn (v := .ty _) hgx hmx hv rfl hn hd) pa_nil he2) he) (by decide) (by decide) he hpl, ⟨fun P M F env σ H Q y x q => ?_⟩⟩
  refine s1.run P M F env σ H _ y x ?_
  unfold mIsi mOp1 at q
  cases e1 : m env with
  | bad => rw [e1] at q; exact q.elim
  | exc z e' => rw [e1] at q; exact q
  | ok o env1 =>
    rw [e1, Rs.bind_ok] at q
    intro P1 M1 v h1 H1 x1 y1 z1 w1
    cases e3 : (o.at env1).bind fun s => bIsi cs [b] s with
    | none => rw [e3] at q; exact q.elim
    | some t =>
      rw [e3] at q
      obtain ⟨s, a1, e4⟩ := obind e3
      have vw : View ⟨X.K, c⟩ P1 H1 s v := z1.view y1 (fun z hz => w1.at_ z (List.mem_append_left _ hz)) (fun z hz => w1.at_ z (List.mem_append_right _ (List.mem_append_left _ hz))) a1
      obtain ⟨ty, b', t1, t2, rfl⟩ := vw.isi w1.ex hcs e4
      have t3 : PySem.W.kitOne X.K ty (.type b.name) = some b' := by
        simp only [List.map_cons, List.map_nil, PySem.W.kitAny] at t2
        cases z : PySem.W.kitOne X.K ty (.type b.name) with
        | none => rw [z] at t2; cases t2
        | some k => rw [z] at t2; cases k <;> simpa using t2
      exact ⟨v, .ty b.name, ty, .type b.name, b', rfl, .ty _, t1, t3, q P1 M1 (.bl b') [] _ x1 y1 ⟨rfl, rfl⟩ w1.dropL⟩
end
end NS
namespace NS
open PySem L2

/-! ### defs of one's own -/
inductive RF where
  | ok (t : T) (as : Env) | exc (x : Exn) (as : Env) | bad
abbrev Fn := List T → RF
/-- the promise of a def whose mirror is F -/
def spM (G : Gx) (n : Nat) (F : Fn) : Sp := fun vs H Q E => ∃ P Fr ts M, EnvOk G P (ts.map some) (vs.map some) M ∧ Hold P (M ++ Fr) H ∧ vs.length = n ∧ match F ts with
  | .ok t as => ∀ P' M' v h H', Ex P P' → EnvOk G P' as (vs.map some) M' → Own G P' t v h → Hold P' (h ++ (M' ++ Fr)) H' → Q v H'
  | .exc x as => ∀ P' M' cls d H', Ex P P' → EnvOk G P' as (vs.map some) M' → Hold P' (M' ++ Fr) H' → ExRep G P' x cls d → E cls d H'
  | .bad => False
/-- the things that operands stand for; what is owned leaves the environment -/
def takeOps : List Op → Env → Option (List T × Env)
  | [], e => some ([], e)
  | .tmp t :: r, e => (takeOps r e).bind fun p => some (t :: p.1, p.2)
  | .pk i :: r, e => match (e[i]?).join with
    | none => none
    | some (.d x) => (takeOps r e).bind fun p => some (.d x :: p.1, p.2)
    | some t => (takeOps r (e.set i none)).bind fun p => some (t :: p.1, p.2)
def putOps : List Op → Env → Env → Env
  | .tmp _ :: r, _ :: as, e => putOps r as e
  | .pk i :: r, some t :: as, e => putOps r as (e.set i (some t))
  | .pk _ :: r, none :: as, e => putOps r as e
  | _, _, e => e
def callRes (F : Fn) (os : List Op) (e1 : Env) : Rs T := match takeOps os e1 with
  | none => .bad
  | some (ts, e2) => match F ts with
    | .ok t as => .ok t (putOps os as e2)
    | .exc x as => .exc x (putOps os as e2)
    | .bad => .bad
def mCall (F : Fn) (m : MA) : ME := fun env => (m env).bind fun os e1 => callRes F os e1
section
variable {G : Gx} {W : WX}
theorem takeOps.ok {P : Hp} {σ : St} : ∀ {os : List Op} {env : Env} {vs : List V} {h M : Cells} {ts : List T} {e2 : Env}, OpsOk G P σ os vs h → EnvOk G P env σ M → takeOps os env = some (ts, e2) →
    ∃ h' M', (h ++ M).Perm (h' ++ M') ∧ EnvOk G P (ts.map some) (vs.map some) h' ∧ EnvOk G P e2 σ M'
  | [], env, _, _, M, ts, e2, x, y, e => by
    simp only [takeOps, Option.some.injEq, Prod.mk.injEq] at e
    obtain ⟨rfl, rfl⟩ := e
    rw [x.1, x.2]
    exact ⟨[], M, by simp, ⟨rfl, rfl⟩, y⟩
  | .tmp t :: r, env, _, _, M, ts, e2, ⟨v, w, h1, h2, rfl, rfl, x, z⟩, y, e => by
    simp only [takeOps] at e
    obtain ⟨⟨us, e3⟩, e1, e⟩ := obind e
    cases e
    obtain ⟨h', M', p, q1, q2⟩ := takeOps.ok z y e1
    refine ⟨h1 ++ h', M', ?_, ⟨v, w.map some, h1, h', rfl, rfl, x, q1⟩, q2⟩
    rw [List.append_assoc, List.append_assoc]
    exact List.Perm.append_left h1 p
  | .pk i :: r, env, _, _, M, ts, e2, ⟨v, w, h1, h2, rfl, rfl, ⟨e0, hx⟩, z⟩, y, e => by
    subst e0
    simp only [takeOps] at e
    cases q : (env[i]?).join with
    | none => rw [q] at e; cases e
    | some t =>
      rw [q] at e
      obtain ⟨v', g, M1, q1, q2, q3, q4⟩ := y.take (join_some q)
      rw [hx] at q1
      cases q1
      have own : ∀ {us e3}, takeOps r (env.set i none) = some (us, e3) → ∃ h' M', (h2 ++ M).Perm (h' ++ M') ∧ EnvOk G P ((t :: us).map some) ((v :: w).map some) h' ∧ EnvOk G P e3 σ M' := fun {us e3} e1 => by
        obtain ⟨h', M', p, a1, a2⟩ := takeOps.ok z q4 e1
        refine ⟨g ++ h', M', ?_, ⟨v, w.map some, g, h', rfl, rfl, q3, a1⟩, a2⟩
        refine (List.Perm.append_left h2 q2).trans ?_
        refine List.Perm.trans ?_ ((List.Perm.append_left g p).trans (by rw [← List.append_assoc]))
        rw [← List.append_assoc, ← List.append_assoc]
        exact List.Perm.append_right _ List.perm_append_comm
      cases t with
      | d d =>
        obtain ⟨⟨us, e3⟩, e1, e⟩ := obind e
        cases e
        obtain ⟨h', M', p, a1, a2⟩ := takeOps.ok z y e1
        obtain ⟨rfl, r3⟩ := q3
        exact ⟨h', M', p, ⟨v, w.map some, [], h', rfl, rfl, ⟨rfl, r3⟩, a1⟩, a2⟩
      | l xs =>
        obtain ⟨⟨us, e3⟩, e1, e⟩ := obind e
        cases e
        exact own e1
      | k xs =>
        obtain ⟨⟨us, e3⟩, e1, e⟩ := obind e
        cases e
        exact own e1
      | o c xs =>
        obtain ⟨⟨us, e3⟩, e1, e⟩ := obind e
        cases e
        exact own e1
theorem putOps.ok {P0 P : Hp} {σ : St} : ∀ {os : List Op} {env as : Env} {vs : List V} {h0 h M : Cells}, OpsOk G P0 σ os vs h0 → EnvOk G P as (vs.map some) h → EnvOk G P env σ M →
    ∃ M' M2, (h ++ M).Perm (M' ++ M2) ∧ EnvOk G P (putOps os as env) σ M'
  | [], env, as, _, _, h, M, x, a, y => ⟨M, h, List.perm_append_comm, by cases as <;> exact y⟩
  | .tmp t :: r, env, [], _, _, h, M, x, a, y => ⟨M, h, List.perm_append_comm, y⟩
  | .pk i :: r, env, [], _, _, h, M, x, a, y => ⟨M, h, List.perm_append_comm, y⟩
  | .tmp t :: r, env, none :: as, _, _, h, M, ⟨v, w, h1, h2, rfl, rfl, x, z⟩, ⟨v', σ', e1, a⟩, y => by
    simp only [List.map_cons, List.cons.injEq] at e1
    obtain ⟨_, rfl⟩ := e1
    exact putOps.ok (os := r) (as := as) z a y
  | .tmp t :: r, env, some u :: as, _, _, h, M, ⟨v, w, h1, h2, rfl, rfl, x, z⟩, ⟨v', σ', g, M1, e1, e2, o, a⟩, y => by
    simp only [List.map_cons, List.cons.injEq] at e1
    obtain ⟨_, rfl⟩ := e1
    obtain ⟨M', M2, p, q⟩ := putOps.ok (os := r) (as := as) z a y
    refine ⟨M', g ++ M2, ?_, q⟩
    rw [e2, List.append_assoc]
    refine (List.Perm.append_left g p).trans ?_
    rw [← List.append_assoc, ← List.append_assoc]
    exact List.Perm.append_right _ List.perm_append_comm
  | .pk i :: r, env, none :: as, _, _, h, M, ⟨v, w, h1, h2, rfl, rfl, x, z⟩, ⟨v', σ', e1, a⟩, y => by
    simp only [List.map_cons, List.cons.injEq] at e1
    obtain ⟨_, rfl⟩ := e1
    exact putOps.ok (os := r) (as := as) z a y
  | .pk i :: r, env, some u :: as, _, _, h, M, ⟨v, w, h1, h2, rfl, rfl, ⟨e0, hx⟩, z⟩, ⟨v', σ', g, M1, e1, e2, o, a⟩, y => by
    subst e0
    simp only [List.map_cons, List.cons.injEq, Option.some.injEq] at e1
    obtain ⟨rfl, rfl⟩ := e1
    obtain ⟨M3, M4, p3, y3⟩ := y.back hx o
    obtain ⟨M', M2, p, q⟩ := putOps.ok (os := r) (as := as) z a y3
    refine ⟨M', M4 ++ M2, ?_, q⟩
    rw [e2]
    refine perm_by fun b => ?_
    have c1 := p3.count_eq b
    have c2 := p.count_eq b
    simp only [List.count_append] at c1 c2 ⊢
    omega
/-- what a call's rule needs -/
theorem call_core {F : Fn} {n : Nat} {E : XK} {P0 P : Hp} {M Fr h : Cells} {env : Env} {σ : St} {H : Hp} {os : List Op} {vs : List V} {Q : VK} (hn : ∀ ts, F ts ≠ .bad → ts.length = n) (z : OpsOk G P σ os vs h) (y : EnvOk G P env σ M) (w : Hold P (h ++ (M ++ Fr)) H) (e0 : Ex P0 P)
    (q : match callRes F os env with
      | .ok t env' => ∀ P' M' v h H', Ex P0 P' → EnvOk G P' env' σ M' → Own G P' t v h → Hold P' (h ++ (M' ++ Fr)) H' → Q v H'
      | .exc x env' => ∀ P' M' cls d H', Ex P0 P' → EnvOk G P' env' σ M' → Hold P' (M' ++ Fr) H' → ExRep G P' x cls d → E cls d H'
      | .bad => False) : spM G n F vs H Q E := by
  unfold callRes at q
  cases e : takeOps os env with
  | none => rw [e] at q; exact q.elim
  | some p =>
    obtain ⟨ts, e2⟩ := p
    rw [e] at q
    obtain ⟨h', M', p, a1, a2⟩ := takeOps.ok z y e
    have hl : ts.length = vs.length := by simpa using a1.len.symm
    refine ⟨P, M' ++ Fr, ts, h', a1, w.perm ?_, ?_, ?_⟩
    · rw [← List.append_assoc, ← List.append_assoc]
      exact List.Perm.append_right _ p
    · rw [← hl]
      refine hn ts fun hb => ?_
      dsimp only at q
      rw [hb] at q
      exact q
    · dsimp only at q
      cases ef : F ts with
      | bad => rw [ef] at q; exact q
      | ok t as =>
        rw [ef] at q
        intro P' M1 v h1 H' x1 b1 o1 w1
        obtain ⟨M2, M3, p2, y2⟩ := putOps.ok z b1 (a2.mono x1)
        refine q P' M2 v h1 H' (e0.trans x1) y2 o1 (Hold.dropL (M := M3) (w1.perm (perm_by fun b => ?_)))
        have c2 := p2.count_eq b
        simp only [List.count_append] at c2 ⊢
        omega
      | exc x as =>
        rw [ef] at q
        intro P' M1 cls d H' x1 b1 w1 r1
        obtain ⟨M2, M3, p2, y2⟩ := putOps.ok z b1 (a2.mono x1)
        refine q P' M2 cls d H' (e0.trans x1) y2 (Hold.dropL (M := M3) (w1.perm (perm_by fun b => ?_))) r1
        have c2 := p2.count_eq b
        simp only [List.count_append] at c2 ⊢
        omega
theorem SA.call {F : Fn} {n : Nat} {ta : TA} {m : MA} (hn : ∀ ts, F ts ≠ .bad → ts.length = n) (h : SA G W ta m) : SE G W (tCallS (spM G n F) (WE W) ta) (mCall F m) := ⟨fun P M Fr env σ H Q y x q => h.run P M Fr env σ H _ y x (by
  unfold mCall at q
  cases e1 : m env with
  | bad => rw [e1] at q; exact q.elim
  | exc z e' => rw [e1] at q; exact q
  | ok os env1 =>
    rw [e1, Rs.bind_ok] at q
    intro P1 M1 vs h1 H1 x1 y1 z1 w1
    refine call_core hn z1 y1 w1 x1 ?_
    revert q
    generalize callRes F os env1 = r
    intro q
    cases r with
    | bad => exact q
    | ok t e => exact q
    | exc x e => exact fun P' M' cls d H' a b c r => q P' M' cls d σ H' a rfl b c r)⟩
end
/-- a def that may be called by its name -/
structure Cal (c : Nat → Addr) (P : Program) (w : World) (K : PySem.W.Frag) (mg : Str → Option Value) (base : Heap) (k : Nat) (x : Str) (n : Nat) (F : Fn) : Prop where
  ex : ∃ (f : Addr) (fd : FuncData) (ps : List Str), FnOk P w K mg base (L2.CX P w) k f fd ps (spM ⟨K, c⟩ n F) ∧ mg x = some (.ref f) ∧ PySem.W.keepIn K (.ref f) = true ∧ Binds K fd ps []
  len : ∀ ts, F ts ≠ .bad → ts.length = n
/-- the context of a def's body: what may leave it, the room for calls -/
structure Ct (X : Cx) (W : WX) (k : Nat) : Prop where
  nd : X.N.Nodup
  calm : X.calm = true
  tk : Takes X W
  room : Room k X.A
theorem Ct.units {X : Cx} {W : WX} {k : Nat} (c : Ct X W k) : X.A.units + 64 < cLine := c.room.units
section
variable {c : Nat → Addr} {X : Cx} {W : WX} {p pos : Pos} {e : Expr} {es : List Expr} {m : MA} {x : Str} {k j n : Nat} {F : Fn}
theorem xe_call (t : Ct X W k) (cl : Cal c X.prog X.w X.K X.mg X.base j x n F) (hj : j ≤ k) (ha : XA c X W (e :: es) m) (hg : Gl X x := by rfl) (hdb : (x == ("__debug__" : Str)) = false := by decide)
    (he : starEach (e :: es) X.env = (false, eval e X.env) :: starEach es X.env := by rfl) (hpl : (backTo pos (starEach es X.env)).any (·.1) = false := by rfl) : XE c X W (.Call (.Name x p) (e :: es) [] pos) (mCall F m) := by
  obtain ⟨f, fd, ps, Fo, hm, kp, b⟩ := cl.ex
  obtain ⟨ta, p1, s1⟩ := ha
  exact ⟨_, pe_callS Fo (t.room.mono hj) hg hm kp b (fun σ => passAt t.tk σ) p1 hdb he hpl, SA.call cl.len s1⟩
end
end NS
namespace NS
open PySem L2

/-! ### which slots a statement stores -/
abbrev AS := List Nat
def aNo : AS := []
def aOne (i : Nat) : AS := [i]
def aOr (a b : AS) : AS := a ++ b
def aHas (a : AS) (j : Nat) : Bool := a.any fun k => k == j
theorem aHas_or (a b : AS) (j : Nat) : aHas (aOr a b) j = (aHas a j || aHas b j) := by unfold aHas aOr; rw [List.any_append]
structure Keep (A : AS) (σ σ' : St) : Prop where
  len : σ'.length = σ.length
  at_ : ∀ j : Nat, aHas A j = false → σ'[j]? = σ[j]?
theorem Keep.refl {A : AS} {σ : St} : Keep A σ σ := ⟨rfl, fun _ _ => rfl⟩
theorem Keep.trans {A : AS} {σ σ1 σ2 : St} (a : Keep A σ σ1) (b : Keep A σ1 σ2) : Keep A σ σ2 := ⟨b.len.trans a.len, fun j h => (b.at_ j h).trans (a.at_ j h)⟩
theorem Keep.l {A B : AS} {σ σ1 : St} (a : Keep A σ σ1) : Keep (aOr A B) σ σ1 := ⟨a.len, fun j h => a.at_ j (by rw [aHas_or] at h; exact (Bool.or_eq_false_iff.mp h).1)⟩
theorem Keep.r {A B : AS} {σ σ1 : St} (a : Keep B σ σ1) : Keep (aOr A B) σ σ1 := ⟨a.len, fun j h => a.at_ j (by rw [aHas_or] at h; exact (Bool.or_eq_false_iff.mp h).2)⟩
theorem Keep.one {i : Nat} {σ : St} {v : Option V} : Keep (aOne i) σ (σ.set i v) := ⟨List.length_set, fun j h => by
  have : j ≠ i := fun e => by unfold aHas aOne at h; rw [e] at h; simp at h
  rw [List.getElem?_set_ne (Ne.symm this)]⟩

/-! ### targets -/
abbrev MG := T → Env → Rs Unit
structure SG (G : Gx) (W : WX) (A : AS) (g : TG) (m : MG) : Prop where
  run : ∀ P M F env σ H t v h Q, EnvOk G P env σ M → Own G P t v h → Hold P (h ++ (M ++ F)) H → (match m t env with
    | .ok _ env' => ∀ P' M' σ' H', Ex P P' → Keep A σ σ' → EnvOk G P' env' σ' M' → Hold P' (M' ++ F) H' → Q σ' H'
    | .exc x env' => XP G W P F (Keep A σ) x env'
    | .bad => False) → g v σ H Q
def XG (c : Nat → Addr) (X : Cx) (W : WX) (A : AS) (e : Expr) (m : MG) : Prop := ∃ g, PG X e g ∧ SG ⟨X.K, c⟩ W A g m
abbrev MGs := List T → Env → Rs Unit
structure SGs (G : Gx) (W : WX) (A : AS) (g : TGs) (m : MGs) : Prop where
  run : ∀ P M F env σ H ts vs h Q, EnvOk G P env σ M → EnvOk G P (ts.map some) (vs.map some) h → Hold P (h ++ (M ++ F)) H → (match m ts env with
    | .ok _ env' => ∀ P' M' σ' H', Ex P P' → Keep A σ σ' → EnvOk G P' env' σ' M' → Hold P' (M' ++ F) H' → Q σ' H'
    | .exc x env' => XP G W P F (Keep A σ) x env'
    | .bad => False) → g vs σ H Q
def XGs (c : Nat → Addr) (X : Cx) (W : WX) (A : AS) (es : List Expr) (m : MGs) : Prop := ∃ g, PGs X es g ∧ SGs ⟨X.K, c⟩ W A g m
def gN (i : Nat) : MG := fun t env => if i < env.length then .ok () (env.set i (some t)) else .bad
def gNil' : MGs := fun ts env => match ts with
  | [] => .ok () env
  | _ => .bad
def gCons' (g : MG) (r : MGs) : MGs := fun ts env => match ts with
  | t :: us => (g t env).bind fun _ e => r us e
  | [] => .bad
def gTup' (n : Nat) (r : MGs) : MG := fun t env => match t with
  | .d (.tup ds) => if ds.length = n then r (ds.map T.d) env else .bad
  | _ => .bad
/-- x[e] = .., x a list of one's own -/
def isOwnL (env : Env) (i : Nat) : Bool := match (env[i]?).join with
  | some (.l _) => true
  | _ => false
def gSubL (i : Nat) (mi : MD) : MG := fun t env => if isOwnL env i = true then (mi env).bind fun d e => match (e[i]?).join, d with
    | some (.l xs), .int k => match ixN xs.length k with
      | some j => .ok () (e.set i (some (.l (xs.set j t.toD))))
      | none => .bad
    | _, _ => .bad
  else .bad
theorem XP.keep {G : Gx} {W : WX} {P : Hp} {F : Cells} {S S' : St → Prop} {x : Exn} {env : Env} (q : XP G W P F S x env) (h : ∀ σ, S' σ → S σ) : XP G W P F S' x env := fun P' M' cls d σ' H' a b => q P' M' cls d σ' H' a (h _ b)
theorem EnvOk.get {G : Gx} {P : Hp} {env : Env} {σ : St} {M : Cells} {i : Nat} {t : T} (y : EnvOk G P env σ M) (e : env[i]? = some (some t)) : ∃ v h M', σ[i]? = some (some v) ∧ M.Perm (h ++ M') ∧ Own G P t v h ∧ EnvOk G P (env.set i none) σ M' := y.take e
theorem dmapOk {G : Gx} {P : Hp} : ∀ {ds : List D} {vs : List V}, Reps G P ds vs → EnvOk G P ((ds.map T.d).map some) (vs.map some) []
  | [], _, h => by rw [show _ = _ from h]; exact ⟨rfl, rfl⟩
  | d :: ds, _, ⟨v, r, e1, h, hr⟩ => by rw [e1]; exact ⟨v, r.map some, [], [], rfl, rfl, ⟨rfl, h⟩, dmapOk hr⟩
section
variable {G : Gx} {W : WX}
theorem SG.name {i : Nat} : SG G W (aOne i) (gName i) (gN i) := ⟨fun P M F env σ H t v h Q y o w q => by
  unfold gN at q
  by_cases hi : i < env.length
  · rw [if_pos hi] at q
    obtain ⟨M', M2, p, z⟩ := y.put hi o
    refine q P M' _ H (Ex.refl P) Keep.one z (Hold.dropL (M := M2) (w.perm (perm_by fun a => ?_)))
    have c2 := p.count_eq a
    simp only [List.count_append] at c2 ⊢
    omega
  · rw [if_neg hi] at q; exact q.elim⟩
theorem SGs.nil : SGs G W aNo gNil gNil' := ⟨fun P M F env σ H ts vs h Q y o w q => by
  cases ts with
  | nil =>
    have e : vs = [] := by
      have := o.1
      simpa using this
    subst e
    exact ⟨rfl, q P M σ H (Ex.refl P) Keep.refl y w.dropL⟩
  | cons _ _ => exact q.elim⟩
theorem SGs.cons {A B : AS} {g : TG} {r : TGs} {m : MG} {n : MGs} (h1 : SG G W A g m) (h2 : SGs G W B r n) : SGs G W (aOr A B) (gCons g r) (gCons' m n) := ⟨fun P M F env σ H ts vs h Q y o w q => by
  cases ts with
  | nil => exact q.elim
  | cons t us =>
    obtain ⟨v, σ', h3, h4, e1, e2, o1, o2⟩ := o
    cases vs with
    | nil => cases e1
    | cons v' vs' =>
      simp only [List.map_cons, List.cons.injEq, Option.some.injEq] at e1
      obtain ⟨rfl, rfl⟩ := e1
      refine ⟨v', vs', rfl, ?_⟩
      unfold gCons' at q
      dsimp only at q
      rw [e2] at w
      refine h1.run P M (h4 ++ F) env σ H t v' h3 _ y o1 (w.perm (perm_by fun a => by simp only [List.count_append]; omega)) ?_
      cases e3 : m t env with
      | bad => rw [e3] at q; exact q.elim
      | exc z e' => rw [e3] at q; exact (XP.keep q fun σ k => k.l).wide
      | ok _ env1 =>
        rw [e3, Rs.bind_ok] at q
        intro P1 M1 σ1 H1 x1 k1 y1 w1
        refine h2.run P1 M1 F env1 σ1 H1 us vs' h4 Q y1 (o2.mono x1) (w1.perm (perm_by fun a => by simp only [List.count_append]; omega)) ?_
        cases e4 : n us env1 with
        | bad => rw [e4] at q; exact q
        | exc z e' => rw [e4] at q; exact (XP.mono q x1).keep fun σ k => k1.l.trans k.r
        | ok _ env2 => rw [e4] at q; exact fun P2 M2 σ2 H2 x2 k2 => q P2 M2 σ2 H2 (x1.trans x2) (k1.l.trans k2.r)⟩
theorem SGs.tup {A : AS} {r : TGs} {n : MGs} {l : Nat} (h : SGs G W A r n) : SG G W A (gTup G.K l r) (gTup' l n) := ⟨fun P M F env σ H t v h' Q y o w q => by
  unfold gTup' at q
  cases t with
  | d d =>
    cases d with
    | tup ds =>
      dsimp only at q
      by_cases hl : ds.length = l
      · rw [if_pos hl] at q
        obtain ⟨rfl, a, vs, rfl, s, rr⟩ := o
        refine ⟨a, vs, rfl, Evl.ex_t w.ex s, by rw [rr.len]; exact hl, ?_⟩
        exact h.run P M F env σ H (ds.map T.d) vs [] Q y (dmapOk rr) w q
      · rw [if_neg hl] at q; exact q.elim
    | _ => exact q.elim
  | _ => exact q.elim⟩
theorem isOwnL.at {env : Env} {i : Nat} (h : isOwnL env i = true) : ∃ xs, env[i]? = some (some (.l xs)) := by
  unfold isOwnL at h
  cases e : (env[i]?).join with
  | none => rw [e] at h; cases h
  | some t =>
    rw [e] at h
    cases t with
    | l xs => exact ⟨xs, join_some e⟩
    | _ => cases h
theorem SD.subL {i : Nat} {ti : TE} {mi : MD} (hi : SD G W ti mi) : SG G W aNo (gSub (tVar i) ti rSetL) (gSubL i mi) := ⟨fun P M F env σ H t v g Q y o w q => by
  unfold gSubL at q
  by_cases h0 : isOwnL env i = true
  · rw [if_pos h0] at q
    obtain ⟨xs0, e0⟩ := isOwnL.at h0
    obtain ⟨x, _, _, hx, _, _, _⟩ := y.take e0
    refine ⟨x, hx, ?_⟩
    refine hi.run P M (g ++ F) env σ H _ y (w.perm (perm_by fun a => by simp only [List.count_append]; omega)) ?_
    cases e1 : mi env with
    | bad => rw [e1] at q; exact q.elim
    | exc z e' => rw [e1] at q; exact (XP.keep q fun σ k => by rw [k]; exact Keep.refl).wide
    | ok d e =>
      rw [e1, Rs.bind_ok] at q
      intro P1 M1 v1 H1 x1 y1 r1 w1
      cases e2 : (e[i]?).join with
      | none => rw [e2] at q; exact q.elim
      | some t0 =>
        rw [e2] at q
        cases t0 with
        | l xs =>
          cases d with
          | int k =>
            dsimp only at q
            cases e3 : ixN xs.length k with
            | none => rw [e3] at q; exact q.elim
            | some j =>
              rw [e3] at q
              dsimp only at q
              obtain ⟨P2, x2, w2, r2⟩ := Hold.freeze (t := t) (M := M1 ++ F) (o.mono x1) (w1.perm (perm_by fun a => by simp only [List.count_append]; omega))
              obtain ⟨x', g', M2, s1, s2, s3, s4⟩ := (y1.mono x2).take (join_some e2)
              rw [hx] at s1; cases s1
              obtain ⟨a, vs, rfl, rfl, rs⟩ := s3
              cases (show v1 = .int k from r1)
              have w3 : Hold P2 ((a, .lst vs) :: (M2 ++ F)) H1 := w2.perm (by
                have := List.Perm.append_right F s2
                simpa using this)
              refine ⟨a, vs, k, j, rfl, rfl, w3.at_ _ List.mem_cons_self, by rw [rs.len]; exact e3, ?_⟩
              have w4 := w3.put (o' := .lst (vs.set j v))
              obtain ⟨M3, M4, p3, y3⟩ := EnvOk.back (t := .l (xs.set j t.toD)) (h := [(a, .lst (vs.set j v))]) s4 hx ⟨a, _, rfl, rfl, rs.set j r2⟩
              rw [List.set_set] at y3
              refine q P2 M3 σ _ (x1.trans x2) Keep.refl y3 (Hold.dropL (M := M4) (w4.perm ?_))
              have : ((a, HO.lst (vs.set j v)) :: (M2 ++ F)) = ([(a, HO.lst (vs.set j v))] ++ M2) ++ F := rfl
              rw [this]
              exact (List.Perm.append_right F p3).trans (perm_by fun b => by simp only [List.count_append]; omega)
          | _ => exact q.elim
        | _ => exact q.elim
  · rw [if_neg h0] at q; exact q.elim⟩
end
section
variable {c : Nat → Addr} {X : Cx} {W : WX} {pos : Pos} {x : Str} {es : List Expr} {e : Expr}
theorem xg_name (i : Nat) (hN : X.N.Nodup) (hi : X.N[i]? = some x := by rfl) (hx : Loc X.env.scope x := by first | exact Or.inl rfl | exact Or.inr rfl) (hf : X.fn x = true ∨ X.env.scope.names.lookup x = some .local := by first | exact .inl rfl | exact .inr rfl) : XG c X W (aOne i) (.Name x pos) (gN i) :=
  ⟨_, pg_name hN hi hx hf, SG.name⟩
theorem xgs_nil : XGs c X W aNo [] gNil' := ⟨_, pgs_nil, SGs.nil⟩
theorem xgs_cons {A B : AS} {m : MG} {n : MGs} (h : XG c X W A e m) (h' : XGs c X W B es n) (hs : (assignEach (e :: es) X.env).map (·.2) = assign e X.env :: (assignEach es X.env).map (·.2) := by rfl) : XGs c X W (aOr A B) (e :: es) (gCons' m n) :=
  let ⟨_, p, s⟩ := h; let ⟨_, p', s'⟩ := h'; ⟨_, pgs_cons p p' hs, SGs.cons s s'⟩
theorem xg_tup {A : AS} {n : MGs} {k l : Nat} (hc : X.calm = true) (h : XGs c X W A es n) (hn : (assignEach es X.env).length = l := by rfl) (hst : (assignEach es X.env).findIdx? (·.1) = none := by rfl) : XG c X W A (.Tuple es k pos) (gTup' l n) :=
  let ⟨_, p, s⟩ := h; ⟨_, pg_tup hc p hn hst, SGs.tup s⟩
theorem xg_subL (i : Nat) {px : Pos} {mi : MD} (h : XD c X W e mi) (hN : X.N[i]? = some x := by rfl) (hv : Vis X.env.scope x := by first | exact Or.inl rfl | exact Or.inr (Or.inl rfl) | exact Or.inr (Or.inr rfl)) (hd : (x == ("__debug__" : Str)) = false := by decide)
    (hcd : (x == ("__classdict__" : Str)) = false := by decide) (ha : ∀ v, assign (.Subscript (.Name x px) e pos) X.env v = (do
      let ov ← holding [v] (eval (.Name x px) X.env)
      let iv ← holding [v, ov] (eval e X.env)
      standAt pos
      holding [v, ov, iv] (setItem ov iv v)
      release [v, ov, iv] []) := by intro _; rfl) : XG c X W aNo (.Subscript (.Name x px) e pos) (gSubL i mi) :=
  let ⟨_, p, s⟩ := h; ⟨_, pg_sub (pe_var hN hv hd hcd) p set_list ha, SD.subL s⟩
end

/-! ### statements -/
structure SS (G : Gx) (W : WX) (A : AS) (ts : TS) (m : MS) : Prop where
  run : ∀ P M F env σ H D, EnvOk G P env σ M → Hold P (M ++ F) H → (match m env with
    | .ok .nx env' => ∀ P' M' σ' H', Ex P P' → Keep A σ σ' → EnvOk G P' env' σ' M' → Hold P' (M' ++ F) H' → D.nx σ' H'
    | .ok .bk env' => ∀ P' M' σ' H', Ex P P' → Keep A σ σ' → EnvOk G P' env' σ' M' → Hold P' (M' ++ F) H' → D.bk σ' H'
    | .ok .ct env' => ∀ P' M' σ' H', Ex P P' → Keep A σ σ' → EnvOk G P' env' σ' M' → Hold P' (M' ++ F) H' → D.ct σ' H'
    | .ok (.rt t) env' => ∀ P' M' σ' v h H', Ex P P' → Keep A σ σ' → EnvOk G P' env' σ' M' → Own G P' t v h → Hold P' (h ++ (M' ++ F)) H' → D.rt v H'
    | .exc x env' => XP G W P F (Keep A σ) x env'
    | .bad => False) → ts D σ H
/-- what is asked of a statement's end -/
def SQ (G : Gx) (W : WX) (A : AS) (P : Hp) (F : Cells) (σ : St) (D : Ends) (r : Rs Fl) : Prop := match r with
    | .ok .nx env' => ∀ P' M' σ' H', Ex P P' → Keep A σ σ' → EnvOk G P' env' σ' M' → Hold P' (M' ++ F) H' → D.nx σ' H'
    | .ok .bk env' => ∀ P' M' σ' H', Ex P P' → Keep A σ σ' → EnvOk G P' env' σ' M' → Hold P' (M' ++ F) H' → D.bk σ' H'
    | .ok .ct env' => ∀ P' M' σ' H', Ex P P' → Keep A σ σ' → EnvOk G P' env' σ' M' → Hold P' (M' ++ F) H' → D.ct σ' H'
    | .ok (.rt t) env' => ∀ P' M' σ' v h H', Ex P P' → Keep A σ σ' → EnvOk G P' env' σ' M' → Own G P' t v h → Hold P' (h ++ (M' ++ F)) H' → D.rt v H'
    | .exc x env' => XP G W P F (Keep A σ) x env'
    | .bad => False
theorem SS.go {G : Gx} {W : WX} {A : AS} {ts : TS} {m : MS} (h : SS G W A ts m) {P M F env σ H D} (y : EnvOk G P env σ M) (w : Hold P (M ++ F) H) (q : SQ G W A P F σ D (m env)) : ts D σ H := h.run P M F env σ H D y w q
theorem SS.mk' {G : Gx} {W : WX} {A : AS} {ts : TS} {m : MS} (h : ∀ P M F env σ H D, EnvOk G P env σ M → Hold P (M ++ F) H → SQ G W A P F σ D (m env) → ts D σ H) : SS G W A ts m := ⟨h⟩
/-- behind a first part -/
theorem SQ.after {G : Gx} {W : WX} {A B : AS} {P P1 : Hp} {F : Cells} {σ σ1 : St} {D : Ends} {r : Rs Fl} (q : SQ G W (aOr A B) P F σ D r) (x : Ex P P1) (k : Keep A σ σ1) : SQ G W B P1 F σ1 D r := by
  cases r with
  | bad => exact q
  | exc z e => exact (XP.mono q x).keep fun σ k' => k.l.trans k'.r
  | ok f e =>
    cases f with
    | nx => exact fun P2 M2 σ2 H2 x2 k2 => q P2 M2 σ2 H2 (x.trans x2) (k.l.trans k2.r)
    | bk => exact fun P2 M2 σ2 H2 x2 k2 => q P2 M2 σ2 H2 (x.trans x2) (k.l.trans k2.r)
    | ct => exact fun P2 M2 σ2 H2 x2 k2 => q P2 M2 σ2 H2 (x.trans x2) (k.l.trans k2.r)
    | rt t => exact fun P2 M2 σ2 v h H2 x2 k2 => q P2 M2 σ2 v h H2 (x.trans x2) (k.l.trans k2.r)
theorem SQ.left {G : Gx} {W : WX} {A B : AS} {P P1 : Hp} {F : Cells} {σ : St} {D : Ends} {r : Rs Fl} (q : SQ G W (aOr A B) P F σ D r) (x : Ex P P1) : SQ G W A P1 F σ D r := by
  cases r with
  | bad => exact q
  | exc z e => exact (XP.mono q x).keep fun σ k' => k'.l
  | ok f e =>
    cases f with
    | nx => exact fun P2 M2 σ2 H2 x2 k2 => q P2 M2 σ2 H2 (x.trans x2) k2.l
    | bk => exact fun P2 M2 σ2 H2 x2 k2 => q P2 M2 σ2 H2 (x.trans x2) k2.l
    | ct => exact fun P2 M2 σ2 H2 x2 k2 => q P2 M2 σ2 H2 (x.trans x2) k2.l
    | rt t => exact fun P2 M2 σ2 v h H2 x2 k2 => q P2 M2 σ2 v h H2 (x.trans x2) k2.l
theorem SQ.right {G : Gx} {W : WX} {A B : AS} {P P1 : Hp} {F : Cells} {σ : St} {D : Ends} {r : Rs Fl} (q : SQ G W (aOr A B) P F σ D r) (x : Ex P P1) : SQ G W B P1 F σ D r := q.after x Keep.refl
theorem SQ.more {G : Gx} {W : WX} {A : AS} {P P1 : Hp} {F : Cells} {σ : St} {D : Ends} {r : Rs Fl} (q : SQ G W A P F σ D r) (x : Ex P P1) : SQ G W A P1 F σ D r := by
  cases r with
  | bad => exact q
  | exc z e => exact XP.mono q x
  | ok f e =>
    cases f with
    | nx => exact fun P2 M2 σ2 H2 x2 k2 => q P2 M2 σ2 H2 (x.trans x2) k2
    | bk => exact fun P2 M2 σ2 H2 x2 k2 => q P2 M2 σ2 H2 (x.trans x2) k2
    | ct => exact fun P2 M2 σ2 H2 x2 k2 => q P2 M2 σ2 H2 (x.trans x2) k2
    | rt t => exact fun P2 M2 σ2 v h H2 x2 k2 => q P2 M2 σ2 v h H2 (x.trans x2) k2
def XS (c : Nat → Addr) (X : Cx) (W : WX) (A : AS) (s : Stmt) (m : MS) : Prop := ∃ ts, PS X s ts ∧ SS ⟨X.K, c⟩ W A ts m
def XSs (c : Nat → Addr) (X : Cx) (W : WX) (A : AS) (s : List Stmt) (m : MS) : Prop := ∃ ts, PSs X s ts ∧ SS ⟨X.K, c⟩ W A ts m
def mPass : MS := fun env => .ok .nx env
def mBreak : MS := fun env => .ok .bk env
def mCont : MS := fun env => .ok .ct env
def mSeq (m n : MS) : MS := fun env => (m env).bind fun f e => match f with
  | .nx => n e
  | f => .ok f e
def mAsg (m : ME) (g : MG) : MS := fun env => (m env).bind fun t e => (g t e).bind fun _ e2 => .ok .nx e2
def mDrop (m : ME) : MS := fun env => (m env).bind fun _ e => .ok .nx e
def mRet (m : ME) : MS := fun env => (m env).bind fun t e => .ok (.rt t) e
def mIfS (t : MB) (m n : MS) : MS := fun env => (t env).bind fun b e => if b = true then m e else n e
section
variable {G : Gx} {W : WX} {A B : AS}
theorem SS.pass : SS G W aNo tNext mPass := ⟨fun P M F env σ H D y w q => q P M σ H (Ex.refl P) Keep.refl y w⟩
theorem SS.brk : SS G W aNo tBreak mBreak := ⟨fun P M F env σ H D y w q => q P M σ H (Ex.refl P) Keep.refl y w⟩
theorem SS.cont : SS G W aNo tCont mCont := ⟨fun P M F env σ H D y w q => q P M σ H (Ex.refl P) Keep.refl y w⟩
theorem SS.seq {t u : TS} {m n : MS} (h : SS G W A t m) (h' : SS G W B u n) : SS G W (aOr A B) (tSeq t u) (mSeq m n) := SS.mk' fun P M F env σ H D y w q => by
  unfold mSeq at q
  refine h.go y w ?_
  cases e : m env with
  | bad => rw [e] at q; exact q
  | exc z e' => rw [e] at q; exact (show SQ _ _ _ _ _ _ _ (.exc z e' : Rs Fl) from q).left (D := D) (Ex.refl P)
  | ok f e1 =>
    rw [e, Rs.bind_ok] at q
    cases f with
    | nx => exact fun P1 M1 σ1 H1 x1 k1 y1 w1 => h'.go y1 w1 (q.after x1 k1)
    | bk => exact fun P1 M1 σ1 H1 x1 k1 y1 w1 => q P1 M1 σ1 H1 x1 k1.l y1 w1
    | ct => exact fun P1 M1 σ1 H1 x1 k1 y1 w1 => q P1 M1 σ1 H1 x1 k1.l y1 w1
    | rt t => exact fun P1 M1 σ1 v g H1 x1 k1 y1 o1 w1 => q P1 M1 σ1 v g H1 x1 k1.l y1 o1 w1
theorem SS.asg {te : TE} {g : TG} {m : ME} {n : MG} (h : SE G W te m) (h' : SG G W A g n) : SS G W A (tAsg te g) (mAsg m n) := SS.mk' fun P M F env σ H D y w q => by
  unfold mAsg at q
  refine h.run P M F env σ H _ y w ?_
  cases e : m env with
  | bad => rw [e] at q; exact q
  | exc z e' => rw [e] at q; exact XP.keep q fun σ k => by rw [k]; exact Keep.refl
  | ok t e1 =>
    rw [e, Rs.bind_ok] at q
    intro P1 M1 v1 h1 H1 x1 y1 o1 w1
    refine h'.run P1 M1 F e1 σ H1 t v1 h1 _ y1 o1 w1 ?_
    cases e2 : n t e1 with
    | bad => rw [e2] at q; exact q
    | exc z e' => rw [e2] at q; exact XP.mono q x1
    | ok _ e3 => rw [e2] at q; exact fun P2 M2 σ2 H2 x2 k2 y2 w2 => q P2 M2 σ2 H2 (x1.trans x2) k2 y2 w2
theorem SS.drop {te : TE} {m : ME} (h : SE G W te m) : SS G W aNo (tDrop te) (mDrop m) := SS.mk' fun P M F env σ H D y w q => by
  unfold mDrop at q
  refine h.run P M F env σ H _ y w ?_
  cases e : m env with
  | bad => rw [e] at q; exact q
  | exc z e' => rw [e] at q; exact XP.keep q fun σ k => by rw [k]; exact Keep.refl
  | ok t e1 =>
    rw [e, Rs.bind_ok] at q
    exact fun P1 M1 v1 h1 H1 x1 y1 o1 w1 => q P1 M1 σ H1 x1 Keep.refl y1 w1.dropL
theorem SS.ret {te : TE} {m : ME} (h : SE G W te m) : SS G W aNo (tRet te) (mRet m) := SS.mk' fun P M F env σ H D y w q => by
  unfold mRet at q
  refine h.run P M F env σ H _ y w ?_
  cases e : m env with
  | bad => rw [e] at q; exact q
  | exc z e' => rw [e] at q; exact XP.keep q fun σ k => by rw [k]; exact Keep.refl
  | ok t e1 =>
    rw [e, Rs.bind_ok] at q
    exact fun P1 M1 v1 h1 H1 x1 y1 o1 w1 => q P1 M1 σ v1 h1 H1 x1 Keep.refl y1 o1 w1
theorem SS.retN : SS G W aNo tRetN (mRet (mDE (mC .non))) := SS.mk' fun P M F env σ H D y w q => q P M σ .non [] H (Ex.refl P) Keep.refl y ⟨rfl, rfl⟩ w
theorem SS.if_ {tt : TT} {t u : TS} {b : MB} {m n : MS} (h0 : ST G W tt b) (h : SS G W A t m) (h' : SS G W B u n) : SS G W (aOr A B) (tIfS tt t u) (mIfS b m n) := SS.mk' fun P M F env σ H D y w q => by
  unfold mIfS at q
  refine h0.run P M F env σ H _ y w ?_
  cases e : b env with
  | bad => rw [e] at q; exact q
  | exc z e' => rw [e] at q; exact XP.keep q fun σ k => by rw [k]; exact Keep.refl
  | ok k e1 =>
    rw [e, Rs.bind_ok] at q
    intro P1 M1 H1 x1 y1 w1
    cases k with
    | true => rw [if_pos rfl] at q ⊢; exact h.go y1 w1 (q.left x1)
    | false => rw [if_neg (by decide)] at q ⊢; exact h'.go y1 w1 (q.right x1)
end
section
variable {c : Nat → Addr} {X : Cx} {W : WX} {pos : Pos} {e tg : Expr} {s : Stmt} {r r' : List Stmt} {A B : AS}
theorem xs_pass : XS c X W aNo (.Pass pos) mPass := ⟨_, ps_pass, SS.pass⟩
theorem xs_break : XS c X W aNo (.Break pos) mBreak := ⟨_, ps_break, SS.brk⟩
theorem xs_cont : XS c X W aNo (.Continue pos) mCont := ⟨_, ps_continue, SS.cont⟩
theorem xss_nil : XSs c X W aNo [] mPass := ⟨_, pss_nil, SS.pass⟩
theorem xss_cons {m n : MS} (h : XS c X W A s m) (h' : XSs c X W B r n) : XSs c X W (aOr A B) (s :: r) (mSeq m n) := let ⟨_, p, q⟩ := h; let ⟨_, p', q'⟩ := h'; ⟨_, pss_cons p p', SS.seq q q'⟩
theorem xss_one {m : MS} (h : XS c X W A s m) : XSs c X W A [s] m := let ⟨_, p, q⟩ := h; ⟨_, pss_one p, q⟩
theorem xs_asg {m : ME} {n : MG} (h : XE c X W e m) (h' : XG c X W A tg n) (hs : swapsWithSole [tg] e pos.line X.env = pure false := by rfl) (hw : swappedStores [tg] e X.env = pure none := by rfl)
    (h1 : (assignEach [tg] X.env).map (·.2) = [assign tg X.env] := by rfl) : XS c X W A (.Assign [tg] e pos) (mAsg m n) := let ⟨_, p, q⟩ := h; let ⟨_, p', q'⟩ := h'; ⟨_, ps_asg p p' hs hw h1, SS.asg q q'⟩
theorem xs_expr {m : ME} (h : XE c X W e m) (hs : swapsWith e none pos.line X.env = pure false := by rfl) : XS c X W aNo (.Expr e pos) (mDrop m) := let ⟨_, p, q⟩ := h; ⟨_, ps_expr p hs, SS.drop q⟩
theorem xs_ret {m : ME} (h : XE c X W e m) : XS c X W aNo (.Return (some e) pos) (mRet m) := let ⟨_, p, q⟩ := h; ⟨_, ps_ret p, SS.ret q⟩
theorem xs_retN : XS c X W aNo (.Return none pos) (mRet (mDE (mC .non))) := ⟨_, ps_retN, SS.retN⟩
theorem xs_if {b : MB} {m n : MS} (h0 : XT c X W e b) (h : XSs c X W A r m) (h' : XSs c X W B r' n) : XS c X W (aOr A B) (.If e r r' pos) (mIfS b m n) := let ⟨_, p0, q0⟩ := h0; let ⟨_, p, q⟩ := h; let ⟨_, p', q'⟩ := h'; ⟨_, ps_if p0 p p', SS.if_ q0 q q'⟩
end
end NS
namespace NS
open PySem L2

/-! ### what is walked -/
theorem PI.or {X : Cx} {tg iter : Expr} {w1 w2 : TI} (h1 : PI X tg iter w1) (h2 : PI X tg iter w2) : PI X tg iter (fun σ H R => w1 σ H R ∨ w2 σ H R) :=
  ⟨fun pins s σ H R I h => h.elim (fun z => h1.run pins s σ H R I z) fun z => h2.run pins s σ H R I z⟩
/-- an iterator over the items ds, by what stands in P and Fx -/
def ItOk (G : Gx) (P : Hp) (Fx : Cells) (J : It) (ds : List D) : Prop := ∃ (Gd : Hp → Prop) (Y : Nat → Hp → V → Hp → Prop), Walk J ds.length Gd Y ∧
  (∀ P' H, Ex P P' → Hold P' Fx H → Gd H) ∧
  ∀ i P' M H x H', i < ds.length → Ex P P' → Hold P' (M ++ Fx) H → Y i H x H' → ∃ P2 d, ds[i]? = some d ∧ Ex P' P2 ∧ Hold P2 (M ++ Fx) H' ∧ Rep G P2 d x
/-- by values: what a loop's rule asks of its arguments' values -/
def ItS (G : Gx) (r : List V → Hp → (It → Hp → Prop) → Prop) (f : List T → Option (List D)) : Prop := ∀ (P : Hp) (Fx : Cells) (vs : List V) (ts : List T) (ds : List D) (H : Hp) (R : It → Hp → Prop),
  EnvOk G P (ts.map some) (vs.map some) Fx → Hold P Fx H → f ts = some ds → (∀ J, ItOk G P Fx J ds → R J H) → r vs H R
abbrev MIt := (List T → Option (List D)) × MA
structure SIt (G : Gx) (W : WX) (wi : TI) (f : List T → Option (List D)) (ma : MA) : Prop where
  run : ∀ P M F env σ H R, EnvOk G P env σ M → Hold P (M ++ F) H → (match ma env with
    | .ok os env1 => match takeOps os env1 with
      | none => False
      | some (ts, e2) => match f ts with
        | none => False
        | some ds => ∀ P' M' vs h0 Fx H' J, Ex P P' → OpsOk G P' σ os vs h0 → EnvOk G P' (ts.map some) (vs.map some) Fx → EnvOk G P' e2 σ M' → Hold P' (M' ++ (Fx ++ F)) H' → ItOk G P' Fx J ds → R J H'
    | .exc x env' => XP G W P F (· = σ) x env'
    | .bad => False) → wi σ H R
def tIt (r : List V → Hp → (It → Hp → Prop) → Prop) (ta : TA) : TI := fun σ H R => ta σ H fun vs H1 => r vs H1 R
theorem SA.it {G : Gx} {W : WX} {ta : TA} {ma : MA} {r : List V → Hp → (It → Hp → Prop) → Prop} {f : List T → Option (List D)} (hr : ItS G r f) (h : SA G W ta ma) : SIt G W (tIt r ta) f ma := ⟨fun P M F env σ H R y w q => by
  refine h.run P M F env σ H _ y w ?_
  cases e1 : ma env with
  | bad => rw [e1] at q; exact q
  | exc z e' => rw [e1] at q; exact q
  | ok os env1 =>
    rw [e1] at q
    intro P1 M1 vs h1 H1 x1 y1 z1 w1
    cases e2 : takeOps os env1 with
    | none => simp only [e2] at q
    | some p =>
      obtain ⟨ts, e3⟩ := p
      simp only [e2] at q
      cases e4 : f ts with
      | none => simp only [e4] at q
      | some ds =>
        simp only [e4] at q
        obtain ⟨h', M', p, a1, a2⟩ := takeOps.ok z1 y1 e2
        have w2 : Hold P1 (M' ++ (h' ++ F)) H1 := w1.perm (perm_by fun b => by
          have c2 := p.count_eq b
          simp only [List.count_append] at c2 ⊢
          omega)
        have w3 : Hold P1 h' H1 := (w2.dropL).dropR
        exact hr P1 h' vs ts ds H1 R a1 w3 e4 fun J ij => q P1 M' vs h1 h' H1 J x1 z1 a1 a2 w2 ij⟩
def XIt (c : Nat → Addr) (X : Cx) (W : WX) (tg iter : Expr) (f : List T → Option (List D)) (ma : MA) : Prop := ∃ wi, PI X tg iter wi ∧ SIt ⟨X.K, c⟩ W wi f ma

/-! ### for -/
def forGo (g : MG) (b : MS) : List D → MS
  | [], e => .ok .nx e
  | d :: r, e => (g (.d d) e).bind fun _ e1 => match b e1 with
    | .ok .nx e2 => forGo g b r e2
    | .ok .ct e2 => forGo g b r e2
    | .ok .bk e2 => .ok .nx e2
    | .ok (.rt t) e2 => .ok (.rt t) e2
    | .exc x e2 => .exc x e2
    | .bad => .bad
/-- the slots that are hidden are not stored -/
def opsFree (A : AS) (os : List Op) : Bool := os.all fun o => match o with
  | .pk i => !aHas A i
  | _ => true
def Rs.env {α : Type} (h : Env → Env) (r : Rs α) : Rs α := match r with
  | .ok a e => .ok a (h e)
  | .exc x e => .exc x (h e)
  | .bad => .bad
@[simp] theorem Rs.env_ok {α : Type} (h : Env → Env) (a : α) (e : Env) : (Rs.ok a e).env h = .ok a (h e) := rfl
@[simp] theorem Rs.env_exc {α : Type} (h : Env → Env) (x : Exn) (e : Env) : (Rs.exc x e : Rs α).env h = .exc x (h e) := rfl
@[simp] theorem Rs.env_bad {α : Type} (h : Env → Env) : (Rs.bad : Rs α).env h = .bad := rfl
def mFor (A : AS) (f : List T → Option (List D)) (ma : MA) (g : MG) (b : MS) : MS := fun env => (ma env).bind fun os e1 => match takeOps os e1 with
  | none => .bad
  | some (ts, e2) => match f ts with
    | none => .bad
    | some ds => if opsFree A os = true then (forGo g b ds e2).env fun e3 => putOps os (ts.map some) e3 else .bad
theorem OpsOk.keep {G : Gx} {P P' : Hp} {A : AS} {σ σ' : St} (k : Keep A σ σ') (x : Ex P P') : ∀ {os : List Op} {vs : List V} {h : Cells}, opsFree A os = true → OpsOk G P σ os vs h → OpsOk G P' σ' os vs h
  | [], _, _, _, z => z
  | .tmp t :: r, _, _, hf, ⟨v, w, h1, h2, a, b, z, zz⟩ => ⟨v, w, h1, h2, a, b, Own.mono (t := t) x z, OpsOk.keep k x (by simpa [opsFree] using hf) zz⟩
  | .pk i :: r, _, _, hf, ⟨v, w, h1, h2, a, b, z, zz⟩ => by
    simp only [opsFree, List.all_cons, Bool.and_eq_true, Bool.not_eq_true'] at hf
    exact ⟨v, w, h1, h2, a, b, ⟨z.1, (k.at_ i hf.1).trans z.2⟩, OpsOk.keep k x hf.2 zz⟩
section
variable {G : Gx} {W : WX} {A B : AS}
/-- the slots that were hidden come back behind a loop -/
theorem back_ok {P P0 : Hp} {M F Fx h0 : Cells} {os : List Op} {ts : List T} {vs : List V} {env : Env} {σ σ' : St} {H : Hp} (z : OpsOk G P0 σ os vs h0) (a : EnvOk G P0 (ts.map some) (vs.map some) Fx) (hf : opsFree A os = true) (k : Keep A σ σ') (x : Ex P0 P) (y : EnvOk G P env σ' M) (w : Hold P (M ++ (Fx ++ F)) H) :
    ∃ M', EnvOk G P (putOps os (ts.map some) env) σ' M' ∧ Hold P (M' ++ F) H ∧ ∀ h, Hold P (h ++ (M ++ (Fx ++ F))) H → Hold P (h ++ (M' ++ F)) H := by
  obtain ⟨M', M2, p, q⟩ := putOps.ok (OpsOk.keep (G := G) k x hf z) (a.mono x) y
  have pp : ∀ h, Hold P (h ++ (M ++ (Fx ++ F))) H → Hold P (h ++ (M' ++ F)) H := fun h w => Hold.dropL (M := M2) (w.perm (perm_by fun b => by
    have c2 := p.count_eq b
    simp only [List.count_append] at c2 ⊢
    omega))
  exact ⟨M', q, by simpa using pp [] (by simpa using w), pp⟩
theorem SIt.for_ {wi : TI} {f : List T → Option (List D)} {ma : MA} {g : TG} {mg : MG} {tb : TS} {mb : MS} (h : SIt G W wi f ma) (hg : SG G W A g mg) (hb : SS G W B tb mb) : SS G W (aOr A B) (tFor wi g tb) (mFor (aOr A B) f ma mg mb) := SS.mk' fun P M F env σ H D y w q => by
  unfold mFor at q
  refine h.run P M F env σ H _ y w ?_
  cases e1 : ma env with
  | bad => rw [e1] at q; exact q
  | exc z e' => rw [e1] at q; exact XP.keep q fun σ k => by rw [k]; exact Keep.refl
  | ok os env1 =>
    rw [e1, Rs.bind_ok] at q
    cases e2 : takeOps os env1 with
    | none => simp only [e2] at q; exact False.elim q
    | some p =>
      obtain ⟨ts, e3⟩ := p
      simp only [e2] at q ⊢
      cases e4 : f ts with
      | none => simp only [e4] at q; exact False.elim q
      | some ds =>
        simp only [e4] at q ⊢
        by_cases hf : opsFree (aOr A B) os = true
        · rw [if_pos hf] at q
          intro P0 M0 vs h0 Fx H0 J x0 z0 a0 y0 w0 ij
          obtain ⟨Gd, Y, wk, gd, yd⟩ := ij
          -- the loop, the hidden slots among the frame
          have q2 : SQ G W (aOr A B) P0 (Fx ++ F) σ D (forGo mg mb ds e3) := by
            cases er : forGo mg mb ds e3 with
            | bad => rw [er] at q; exact q
            | exc zx ee =>
              rw [er] at q
              intro P' M' cls d σ' H' x' k' y' w' r'
              obtain ⟨M2, y2, w2, _⟩ := back_ok z0 a0 hf k' x' y' w'
              exact q P' M2 cls d σ' H' (x0.trans x') k' y2 w2 r'
            | ok fl ee =>
              rw [er] at q
              cases fl with
              | nx =>
                intro P' M' σ' H' x' k' y' w'
                obtain ⟨M2, y2, w2, _⟩ := back_ok z0 a0 hf k' x' y' w'
                exact q P' M2 σ' H' (x0.trans x') k' y2 w2
              | bk =>
                intro P' M' σ' H' x' k' y' w'
                obtain ⟨M2, y2, w2, _⟩ := back_ok z0 a0 hf k' x' y' w'
                exact q P' M2 σ' H' (x0.trans x') k' y2 w2
              | ct =>
                intro P' M' σ' H' x' k' y' w'
                obtain ⟨M2, y2, w2, _⟩ := back_ok z0 a0 hf k' x' y' w'
                exact q P' M2 σ' H' (x0.trans x') k' y2 w2
              | rt t =>
                intro P' M' σ' v g H' x' k' y' o' w'
                obtain ⟨M2, y2, _, w2⟩ := back_ok z0 a0 hf k' x' y' w'.dropL
                exact q P' M2 σ' v g H' (x0.trans x') k' y2 o' (w2 g w')
          obtain ⟨r, hr⟩ : ∃ r, r = forGo mg mb ds e3 := ⟨_, rfl⟩
          rw [← hr] at q2
          refine for_it wk (g := g) (tb := tb) (fun i σ' H' => ∃ P' M' env', forGo mg mb (ds.drop i) env' = r ∧ Ex P0 P' ∧ Keep (aOr A B) σ σ' ∧ EnvOk G P' env' σ' M' ∧ Hold P' (M' ++ (Fx ++ F)) H')
            ⟨P0, M0, e3, hr.symm, Ex.refl _, Keep.refl, y0, w0⟩ (fun i σ' H' _ ⟨P', M', env', _, x', _, _, w'⟩ => gd P' H' x' (w'.dropL.dropR)) ?_ ?_
          · rintro i x σ' H' H2 hi ⟨P', M', env', er, x', k', y', w'⟩ yi
            obtain ⟨P2, d, hd, x2, w2, r2⟩ := yd i P' (M' ++ F) H' x H2 hi x' (w'.perm (perm_by fun a => by simp only [List.count_append]; omega)) yi
            have ed : ds.drop i = d :: ds.drop (i + 1) := by
              obtain ⟨h1, h2⟩ := List.getElem?_eq_some_iff.mp hd
              rw [List.drop_eq_getElem_cons h1, h2]
            rw [ed] at er
            unfold forGo at er
            have w3 : Hold P2 ([] ++ (M' ++ (Fx ++ F))) H2 := w2.perm (perm_by fun a => by simp only [List.count_append, List.count_nil]; omega)
            refine hg.run P2 M' (Fx ++ F) env' σ' H2 (.d d) x [] _ (y'.mono x2) ⟨rfl, r2⟩ w3 ?_
            cases eg : mg (.d d) env' with
            | bad => rw [eg] at er; rw [← er] at q2; exact q2
            | exc zx ee =>
              rw [eg, Rs.bind_exc] at er
              rw [← er] at q2
              exact (XP.mono q2 (x'.trans x2)).keep fun σ2 k2 => k'.trans k2.l
            | ok _ e5 =>
              rw [eg, Rs.bind_ok] at er
              intro P3 M3 σ3 H3 x3 k3 y3 w4
              refine hb.go y3 w4 ?_
              cases eb : mb e5 with
              | bad => rw [eb] at er; rw [← er] at q2; exact q2
              | exc zx ee =>
                rw [eb] at er
                simp only at er
                rw [← er] at q2
                exact (XP.mono q2 ((x'.trans x2).trans x3)).keep fun σ2 k2 => (k'.trans k3.l).trans k2.r
              | ok fl e6 =>
                rw [eb] at er
                cases fl with
                | nx => exact fun P4 M4 σ4 H4 x4 k4 y4 w5 => ⟨P4, M4, e6, er, ((x'.trans x2).trans x3).trans x4, (k'.trans k3.l).trans k4.r, y4, w5⟩
                | ct => exact fun P4 M4 σ4 H4 x4 k4 y4 w5 => ⟨P4, M4, e6, er, ((x'.trans x2).trans x3).trans x4, (k'.trans k3.l).trans k4.r, y4, w5⟩
                | bk =>
                  simp only at er
                  rw [← er] at q2
                  exact fun P4 M4 σ4 H4 x4 k4 y4 w5 => q2 P4 M4 σ4 H4 (((x'.trans x2).trans x3).trans x4) ((k'.trans k3.l).trans k4.r) y4 w5
                | rt t =>
                  simp only at er
                  rw [← er] at q2
                  exact fun P4 M4 σ4 v g H4 x4 k4 y4 o4 w5 => q2 P4 M4 σ4 v g H4 (((x'.trans x2).trans x3).trans x4) ((k'.trans k3.l).trans k4.r) y4 o4 w5
          · rintro σ' H' ⟨P', M', env', er, x', k', y', w'⟩
            rw [List.drop_length] at er
            simp only [forGo] at er
            rw [← er] at q2
            exact q2 P' M' σ' H' x' k' y' w'
        · rw [if_neg hf] at q; exact q.elim
end
section
variable {c : Nat → Addr} {X : Cx} {W : WX} {pos : Pos} {tg iter : Expr} {body : List Stmt} {A B : AS} {f : List T → Option (List D)} {ma : MA} {mg : MG} {mb : MS}
theorem xs_for (hp : PassesOwn (model X.prog X.w) X.A X.env X.xe) (hc : X.calm = true) (h : XIt c X W tg iter f ma) (hg : XG c X W A tg mg) (hb : XSs c X W B body mb) (hs : ∀ x, foldedSetIterable iter X.env x = pure x := by intro _; rfl) :
    XS c X W (aOr A B) (.For tg iter body [] pos) (mFor (aOr A B) f ma mg mb) := let ⟨_, p, s⟩ := h; let ⟨_, p1, s1⟩ := hg; let ⟨_, p2, s2⟩ := hb; ⟨_, ps_for hp hc p p1 p2 hs, SIt.for_ s s1 s2⟩
end
end NS
namespace NS
open PySem L2 RZ

section
variable {G : Gx}
/-- a list's items, as long as it stands -/
theorem own_lst {P : Hp} {t : T} {v : V} {h : Cells} {ds : List D} (o : Own G P t v h) (e : t.lst? = some ds) : ∃ a vs, v = .ref a ∧ Reps G P ds vs ∧ ∀ P' H, Ex P P' → Hold P' h H → SqL G.K H a vs := by
  cases t with
  | l xs =>
    cases e
    obtain ⟨a, vs, rfl, rfl, r⟩ := o
    exact ⟨a, vs, rfl, r, fun P' H _ w => Evl.sq_of (w.at_ _ List.mem_cons_self)⟩
  | d y =>
    cases y with
    | lst xs => cases e; obtain ⟨_, a, vs, rfl, s, r⟩ := o; exact ⟨a, vs, rfl, r, fun P' H x w => Evl.sq_of (w.ex _ _ (x _ _ s))⟩
    | ro xs => cases e; obtain ⟨_, a, vs, rfl, s, r⟩ := o; exact ⟨a, vs, rfl, r, fun P' H x w => Evl.ex_l (x.trans w.ex) s⟩
    | _ => cases e
  | _ => cases e
theorem own_tup {P : Hp} {t : T} {v : V} {h : Cells} {ds : List D} (o : Own G P t v h) (e : t.tup? = some ds) : ∃ a vs, v = .ref a ∧ Reps G P ds vs ∧ ∀ P' H, Ex P P' → Hold P' h H → SqT G.K H a vs := by
  cases t with
  | d y =>
    cases y with
    | tup xs => cases e; obtain ⟨_, a, vs, rfl, s, r⟩ := o; exact ⟨a, vs, rfl, r, fun P' H x w => Evl.ex_t (x.trans w.ex) s⟩
    | _ => cases e
  | _ => cases e
theorem own_int {P : Hp} {t : T} {v : V} {h : Cells} {i : Int} (o : Own G P t v h) (e : t.int? = some i) : v = .int i ∧ h = [] := by
  cases t with
  | d y =>
    cases y with
    | int j => cases e; exact ⟨o.2, o.1⟩
    | _ => cases e
  | _ => cases e
theorem own1 {P : Hp} {ts : List T} {vs : List V} {h : Cells} {t : T} (y : EnvOk G P (ts.map some) (vs.map some) h) (e : ts = [t]) : ∃ v, vs = [v] ∧ Own G P t v h := by
  subst e
  obtain ⟨v, σ', h1, h2, e1, e2, o, y2⟩ := y
  obtain ⟨e3, e4⟩ := y2
  subst e3 e4
  cases vs with
  | nil => cases e1
  | cons a r =>
    simp only [List.map_cons, List.cons.injEq, Option.some.injEq, List.map_eq_nil_iff] at e1
    obtain ⟨rfl, rfl⟩ := e1
    exact ⟨a, rfl, by rw [e2, List.append_nil]; exact o⟩
theorem own2 {P : Hp} {ts : List T} {vs : List V} {h : Cells} {t u : T} (y : EnvOk G P (ts.map some) (vs.map some) h) (e : ts = [t, u]) : ∃ v w h1 h2, vs = [v, w] ∧ h = h1 ++ h2 ∧ Own G P t v h1 ∧ Own G P u w h2 := by
  subst e
  obtain ⟨v, σ', h1, h2, e1, e2, o, y2⟩ := y
  cases vs with
  | nil => cases e1
  | cons a r =>
    simp only [List.map_cons, List.cons.injEq, Option.some.injEq] at e1
    obtain ⟨rfl, rfl⟩ := e1
    obtain ⟨w, rfl, o2⟩ := own1 (ts := [u]) (vs := r) y2 rfl
    exact ⟨a, w, h1, h2, rfl, e2, o, o2⟩

/-! ### the iterators -/
theorem itok_at {P : Hp} {Fx : Cells} {J : It} {ds : List D} {vs : List V} {Gd : Hp → Prop} (r : Reps G P ds vs) (w : Walk J vs.length Gd (YAt vs)) (g : ∀ P' H, Ex P P' → Hold P' Fx H → Gd H) : ItOk G P Fx J ds :=
  ⟨Gd, YAt vs, by rw [← r.len]; exact w, g, fun i P' M H x H' hi x1 w1 y => by
    obtain ⟨rfl, e⟩ := y
    obtain ⟨d, e2, r2⟩ := r.getV e
    exact ⟨P', d, e2, Ex.refl _, w1, r2.mono x1⟩⟩
def onList (r : V → Hp → (It → Hp → Prop) → Prop) : List V → Hp → (It → Hp → Prop) → Prop := fun vs H R => match vs with
  | [x] => r x H R
  | _ => False
def fLst : List T → Option (List D) := fun ts => match ts with
  | [t] => t.lst?
  | _ => none
def fTup : List T → Option (List D) := fun ts => match ts with
  | [t] => t.tup?
  | _ => none
def orF (f g : List T → Option (List D)) : List T → Option (List D) := fun ts => match f ts with
  | some a => some a
  | none => g ts
def fSeq : List T → Option (List D) := orF fLst fTup
@[simp] theorem fSeq_l (xs : List D) : fSeq [.l xs] = some xs := rfl
@[simp] theorem fSeq_d (xs : List D) : fSeq [.d (.lst xs)] = some xs := rfl
@[simp] theorem fSeq_ro (xs : List D) : fSeq [.d (.ro xs)] = some xs := rfl
@[simp] theorem fSeq_t (xs : List D) : fSeq [.d (.tup xs)] = some xs := rfl
theorem lst_of {f : T → Option (List D)} {ts : List T} {ds : List D} (h : (match ts with | [t] => f t | _ => none) = some ds) : ∃ t, ts = [t] ∧ f t = some ds := by
  match ts with
  | [t] => exact ⟨t, rfl, h⟩
  | [] => cases h
  | _ :: _ :: _ => cases h
theorem it_list : ItS G (onList fun x H R => ∃ a, x = .ref a ∧ (∃ xs, SqL G.K H a xs) ∧ R (Itl G.K a) H) fLst := by
  intro P Fx vs ts ds H R y w e k
  obtain ⟨t, e1, e2⟩ := lst_of e
  obtain ⟨v, rfl, o⟩ := own1 y e1
  obtain ⟨a, xs, rfl, r, s⟩ := own_lst o e2
  exact ⟨a, rfl, ⟨xs, s P H (Ex.refl P) w⟩, k _ (itok_at r walk_list s)⟩
theorem it_tup : ItS G (onList fun x H R => ∃ a, x = .ref a ∧ (∃ xs, SqT G.K H a xs) ∧ R (Itt G.K a) H) fTup := by
  intro P Fx vs ts ds H R y w e k
  obtain ⟨t, e1, e2⟩ := lst_of e
  obtain ⟨v, rfl, o⟩ := own1 y e1
  obtain ⟨a, xs, rfl, r, s⟩ := own_tup o e2
  exact ⟨a, rfl, ⟨xs, s P H (Ex.refl P) w⟩, k _ (itok_at r walk_tup s)⟩
theorem SIt.or {W : WX} {w1 w2 : TI} {f1 f2 : List T → Option (List D)} {ma : MA} (h1 : SIt G W w1 f1 ma) (h2 : SIt G W w2 f2 ma) : SIt G W (fun σ H R => w1 σ H R ∨ w2 σ H R) (orF f1 f2) ma := ⟨fun P M F env σ H R y w q => by
  cases e1 : ma env with
  | bad => rw [e1] at q; exact q.elim
  | exc z e' => rw [e1] at q; exact .inl (h1.run P M F env σ H R y w (by rw [e1]; exact q))
  | ok os env1 =>
    rw [e1] at q
    cases e2 : takeOps os env1 with
    | none => simp only [e2] at q
    | some p =>
      obtain ⟨ts, e3⟩ := p
      simp only [e2] at q
      cases e4 : f1 ts with
      | some ds => exact .inl (h1.run P M F env σ H R y w (by rw [e1]; simp only [e2, e4]; simp only [orF, e4] at q; exact q))
      | none => exact .inr (h2.run P M F env σ H R y w (by rw [e1]; simp only [e2]; simp only [orF, e4] at q; exact q))⟩
def rangeD (lo : Int) (n : Nat) : List D := (List.range n).map fun (i : Nat) => .int (lo + (i : Int))
@[simp] theorem rangeD_len (lo : Int) (n : Nat) : (rangeD lo n).length = n := by unfold rangeD; simp
theorem rangeD_get (lo : Int) (n i : Nat) (h : i < n) : (rangeD lo n)[i]? = some (.int (lo + (i : Int))) := by unfold rangeD; simp [h]
def fR1 : List T → Option (List D) := fun ts => match ts with
  | [.d (.int j)] => if -(2 ^ 62) ≤ j ∧ j < 2 ^ 62 then some (rangeD 0 j.toNat) else none
  | _ => none
def fR2 : List T → Option (List D) := fun ts => match ts with
  | [.d (.int i), .d (.int j)] => if -(2 ^ 62) ≤ i ∧ i < 2 ^ 62 ∧ -(2 ^ 62) ≤ j ∧ j < 2 ^ 62 then some (rangeD i (j - i).toNat) else none
  | _ => none
@[simp] theorem fR1_i (j : Int) : fR1 [.d (.int j)] = if -(2 ^ 62) ≤ j ∧ j < 2 ^ 62 then some (rangeD 0 j.toNat) else none := rfl
@[simp] theorem fR2_i (i j : Int) : fR2 [.d (.int i), .d (.int j)] = if -(2 ^ 62) ≤ i ∧ i < 2 ^ 62 ∧ -(2 ^ 62) ≤ j ∧ j < 2 ^ 62 then some (rangeD i (j - i).toNat) else none := rfl
theorem itok_range {P : Hp} {Fx : Cells} {lo : Int} {n : Nat} : ItOk G P Fx (Itr lo n) (rangeD lo n) :=
  ⟨fun _ => True, _, by rw [rangeD_len]; exact walk_range, fun _ _ _ _ => trivial, fun i P' M H x H' hi x1 w1 y => by
    obtain ⟨rfl, rfl⟩ := y
    rw [rangeD_len] at hi
    exact ⟨P', _, rangeD_get lo n i hi, Ex.refl _, w1, rfl⟩⟩
theorem it_r1 : ItS G (fun vs H R => ∃ j : Int, vs = [.int j] ∧ -(2 ^ 62) ≤ j ∧ j < 2 ^ 62 ∧ R (Itr 0 j.toNat) H) fR1 := by
  intro P Fx vs ts ds H R y w e k
  match ts, e with
  | [.d (.int j)], e =>
    obtain ⟨hc, rfl⟩ := ife e
    obtain ⟨v, rfl, o⟩ := own1 y rfl
    exact ⟨j, by rw [o.2], hc.1, hc.2, k _ itok_range⟩
theorem it_r2 : ItS G (fun vs H R => ∃ i j : Int, vs = [.int i, .int j] ∧ (-(2 ^ 62) ≤ i ∧ i < 2 ^ 62 ∧ -(2 ^ 62) ≤ j ∧ j < 2 ^ 62) ∧ R (Itr i (j - i).toNat) H) fR2 := by
  intro P Fx vs ts ds H R y w e k
  match ts, e with
  | [.d (.int i), .d (.int j)], e =>
    obtain ⟨hc, rfl⟩ := ife e
    obtain ⟨v, u, h1, h2, rfl, _, o1, o2⟩ := own2 y rfl
    exact ⟨i, j, by rw [o1.2, o2.2], hc, k _ itok_range⟩
/-- pairs: a new tuple at each turn -/
theorem itok_pair {P : Hp} {Fx : Cells} {J : It} {ds es : List D} {vs ws : List V} {Gd : Hp → Prop} {n : Nat} (hn : n = min ds.length es.length) (r : Reps G P ds vs) (r' : Reps G P es ws) {gx gy : Nat → Option V} (hx : ∀ i x, gx i = some x → vs[i]? = some x) (hy : ∀ i x, gy i = some x → ws[i]? = some x)
    (w : Walk J n Gd (YPair gx gy)) (g : ∀ P' H, Ex P P' → Hold P' Fx H → Gd H) : ItOk G P Fx J (List.zipWith (fun x y => D.tup [x, y]) ds es) :=
  ⟨Gd, _, by rw [List.length_zipWith, ← hn]; exact w, g, fun i P' M H x H' hi x1 w1 y => by
    obtain ⟨tp, u, v, rfl, ht, rfl, e1, e2⟩ := y
    obtain ⟨d, e3, r3⟩ := r.getV (hx i u e1)
    obtain ⟨e, e4, r4⟩ := r'.getV (hy i v e2)
    have ex2 : Ex P' (upd P' tp (.tup [u, v])) := ex_upd (Evl.fresh_back w1.ex ht)
    exact ⟨_, .tup [d, e], by rw [List.getElem?_zipWith, e3, e4], ex2, w1.newP ht, tp, [u, v], rfl, Evl.st_of upd_same, u, [v], rfl, (r3.mono x1).mono ex2, v, [], rfl, (r4.mono x1).mono ex2, rfl⟩⟩
def fEnum : List T → Option (List D) := fun ts => match ts with
  | [t] => (t.lst?).bind fun ds => some (List.zipWith (fun x y => D.tup [x, y]) (rangeD 0 ds.length) ds)
  | _ => none
theorem rangeReps (P : Hp) : ∀ (n : Nat) (lo : Int), Reps G P (rangeD lo n) ((List.range n).map fun (i : Nat) => V.int (lo + (i : Int))) := by
  intro n lo
  have : ∀ l : List Nat, Reps G P (l.map fun (i : Nat) => D.int (lo + (i : Int))) (l.map fun (i : Nat) => V.int (lo + (i : Int))) := fun l => by
    induction l with
    | nil => exact rfl
    | cons a r ih => exact ⟨_, _, rfl, rfl, ih⟩
  exact this _
theorem it_enum : ItS G (fun vs H R => ∃ a xs, vs = [.ref a] ∧ SqL G.K H a xs ∧ R (Ite G.K a) H) fEnum := by
  intro P Fx vs ts ds H R y w e k
  obtain ⟨t, e1, e2⟩ := lst_of e
  obtain ⟨es, e3, e2⟩ := obind e2
  cases e2
  obtain ⟨v, rfl, o⟩ := own1 y e1
  obtain ⟨a, xs, rfl, r, s⟩ := own_lst o e3
  refine ⟨a, xs, rfl, s P H (Ex.refl P) w, k _ ?_⟩
  refine itok_pair (n := xs.length) (by rw [rangeD_len, Nat.min_self, r.len]) (rangeReps P es.length 0) r (gx := fun i => if i < es.length then some (.int (i : Nat)) else none) (gy := fun i => xs[i]?) (fun i x h => ?_) (fun i x h => h) ?_ s
  · split at h
    · rename_i hi
      cases h
      simp [hi]
    · cases h
  · refine Walk.mono walk_enum (fun H g => g) fun i H x H' hi g y => ?_
    obtain ⟨tp, u, v, h1, h2, h3, h4, h5⟩ := y
    exact ⟨tp, u, v, h1, h2, h3, by dsimp only; rw [if_pos (by rw [← r.len]; exact hi)]; exact h4, h5⟩
def zipD (ds es : List D) : List D := List.zipWith (fun x y => D.tup [x, y]) ds es
def fZip : List T → Option (List D) := fun ts => match ts with
  | [t, u] => match t.lst?, u.lst? with
    | some ds, some es => some (zipD ds es)
    | _, _ => match t.tup?, u.tup? with
      | some ds, some es => some (zipD ds es)
      | _, _ => none
  | _ => none
theorem walk_zipT {K : PySem.W.Frag} {a b : Addr} {xs ys : List V} {n : Nat} (hn : n = min xs.length ys.length) : Walk (ItzT K a b) n (fun H => SqT K H a xs ∧ SqT K H b ys) (YPair (fun i => xs[i]?) (fun i => ys[i]?)) := by
  subst hn
  refine ⟨fun i _ hi q => ?_, fun _ q => ⟨xs, ys, q.1, q.2, by omega⟩, fun i H v H' _ q y => ?_⟩
  · have h1 : i < xs.length := by omega
    have h2 : i < ys.length := by omega
    exact ⟨xs, ys, xs[i], ys[i], q.1, q.2, by simp [h1], by simp [h2]⟩
  · obtain ⟨T, x, z, h1, h2, h3, h4, h5⟩ := y
    exact ⟨T, x, z, h1, h2, h3, h4 xs q.1, h5 ys q.2⟩
theorem it_zip : ItS G (fun vs H R => ∃ a b xs ys, vs = [.ref a, .ref b] ∧ ((SqL G.K H a xs ∧ SqL G.K H b ys ∧ R (Itz G.K a b) H) ∨ (SqT G.K H a xs ∧ SqT G.K H b ys ∧ R (ItzT G.K a b) H))) fZip := by
  intro P Fx vs ts ds H R y w e k
  match ts, e with
  | [t, u], e =>
    obtain ⟨v, z, h1, h2, rfl, rfl, o1, o2⟩ := own2 y rfl
    unfold fZip at e
    dsimp only at e
    have tup : (match t.tup?, u.tup? with | some ds, some es => some (zipD ds es) | _, _ => none) = some ds → ∃ a b xs ys, [v, z] = [.ref a, .ref b] ∧ ((SqL G.K H a xs ∧ SqL G.K H b ys ∧ R (Itz G.K a b) H) ∨ (SqT G.K H a xs ∧ SqT G.K H b ys ∧ R (ItzT G.K a b) H)) := fun e => by
      cases q1 : t.tup? with
      | none => rw [q1] at e; cases e
      | some d1 =>
        cases q2 : u.tup? with
        | none => rw [q1, q2] at e; cases e
        | some d2 =>
          rw [q1, q2] at e
          cases e
          obtain ⟨a, xs, rfl, r1, s1⟩ := own_tup o1 q1
          obtain ⟨b, ys, rfl, r2, s2⟩ := own_tup o2 q2
          have s : ∀ P' H, Ex P P' → Hold P' (h1 ++ h2) H → SqT G.K H a xs ∧ SqT G.K H b ys := fun P' H x w => ⟨s1 P' H x w.dropR, s2 P' H x w.dropL⟩
          have ss := s P H (Ex.refl P) w
          exact ⟨a, b, xs, ys, rfl, .inr ⟨ss.1, ss.2, k _ (itok_pair (n := min xs.length ys.length) (by rw [r1.len, r2.len]) r1 r2 (fun i x h => h) (fun i x h => h) (walk_zipT rfl) s)⟩⟩
    cases q1 : t.lst? with
    | none => rw [q1] at e; exact tup e
    | some d1 =>
      cases q2 : u.lst? with
      | none => rw [q1, q2] at e; exact tup e
      | some d2 =>
        rw [q1, q2] at e
        cases e
        obtain ⟨a, xs, rfl, r1, s1⟩ := own_lst o1 q1
        obtain ⟨b, ys, rfl, r2, s2⟩ := own_lst o2 q2
        have s : ∀ P' H, Ex P P' → Hold P' (h1 ++ h2) H → SqL G.K H a xs ∧ SqL G.K H b ys := fun P' H x w => ⟨s1 P' H x w.dropR, s2 P' H x w.dropL⟩
        have ss := s P H (Ex.refl P) w
        exact ⟨a, b, xs, ys, rfl, .inl ⟨ss.1, ss.2, k _ (itok_pair (n := min xs.length ys.length) (by rw [r1.len, r2.len]) r1 r2 (fun i x h => h) (fun i x h => h) (walk_zip rfl) s)⟩⟩
end
section
variable {c : Nat → Addr} {X : Cx} {W : WX} {pos p tpos : Pos} {tg e e2 : Expr} {m : MO} {ma : MA} {elts : List Expr} {kk : Nat}
theorem xit_seq (h : XO c X W e m) : XIt c X W tg e fSeq (aCons m aNil) := let ⟨_, p, s⟩ := h; ⟨_, PI.or (pi_list p) (pi_tup p), SIt.or (SA.it it_list (SA.cons s SA.nil)) (SA.it it_tup (SA.cons s SA.nil))⟩
theorem xit_range1 (hm : X.mg "range" = none) (h : XA c X W [e] ma) (hg : Gl X "range" := by rfl) (hs : starEach [e] X.env = [(false, eval e X.env)] := by rfl) : XIt c X W tg (.Call (.Name "range" p) [e] [] pos) fR1 ma := let ⟨_, p, s⟩ := h; ⟨_, pi_range1 hg hm p hs, SA.it it_r1 s⟩
theorem xit_range2 (hm : X.mg "range" = none) (h : XA c X W [e, e2] ma) (hg : Gl X "range" := by rfl) (hs : starEach [e, e2] X.env = [(false, eval e X.env), (false, eval e2 X.env)] := by rfl) (hs2 : starEach [e2] X.env = [(false, eval e2 X.env)] := by rfl) : XIt c X W tg (.Call (.Name "range" p) [e, e2] [] pos) fR2 ma := let ⟨_, p, s⟩ := h; ⟨_, pi_range2 hg hm p hs hs2, SA.it it_r2 s⟩
theorem xit_enum (hm : X.mg "enumerate" = none) (h : XA c X W [e] ma) (hg : Gl X "enumerate" := by rfl) (hs : starEach [e] X.env = [(false, eval e X.env)] := by rfl) : XIt c X W (.Tuple elts kk tpos) (.Call (.Name "enumerate" p) [e] [] pos) fEnum ma := let ⟨_, p, s⟩ := h; ⟨_, pi_enum hg hm p hs, SA.it it_enum s⟩
theorem xit_zip (hm : X.mg "zip" = none) (h : XA c X W [e, e2] ma) (hg : Gl X "zip" := by rfl) (hs : starEach [e, e2] X.env = (false, eval e X.env) :: starEach [e2] X.env := by rfl) (hpl : (backTo pos (starEach [e2] X.env)).any (·.1) = false := by rfl) : XIt c X W (.Tuple elts kk tpos) (.Call (.Name "zip" p) [e, e2] [] pos) fZip ma := let ⟨_, p, s⟩ := h; ⟨_, pi_zipA hg hm p hs hpl, SA.it it_zip s⟩
end
end NS
namespace NS
open PySem L2

/-! ### the weakest reading of a mirror -/
def rE (G : Gx) (W : WX) (m : ME) : TE := fun σ H Q => ∃ P M F env, EnvOk G P env σ M ∧ Hold P (M ++ F) H ∧ (match m env with
    | .ok t env' => ∀ P' M' v h H', Ex P P' → EnvOk G P' env' σ M' → Own G P' t v h → Hold P' (h ++ (M' ++ F)) H' → Q v H'
    | .exc x env' => XP G W P F (· = σ) x env'
    | .bad => False)
def rD (G : Gx) (W : WX) (m : MD) : TE := fun σ H Q => ∃ P M F env, EnvOk G P env σ M ∧ Hold P (M ++ F) H ∧ (match m env with
    | .ok d env' => ∀ P' M' v H', Ex P P' → EnvOk G P' env' σ M' → Rep G P' d v → Hold P' (M' ++ F) H' → Q v H'
    | .exc x env' => XP G W P F (· = σ) x env'
    | .bad => False)
def rT (G : Gx) (W : WX) (m : MB) : TT := fun σ H Q => ∃ P M F env, EnvOk G P env σ M ∧ Hold P (M ++ F) H ∧ (match m env with
    | .ok b env' => ∀ P' M' H', Ex P P' → EnvOk G P' env' σ M' → Hold P' (M' ++ F) H' → Q b H'
    | .exc x env' => XP G W P F (· = σ) x env'
    | .bad => False)
def rG (G : Gx) (W : WX) (A : AS) (m : MG) : TG := fun v σ H Q => ∃ P M F env t h, EnvOk G P env σ M ∧ Own G P t v h ∧ Hold P (h ++ (M ++ F)) H ∧ (match m t env with
    | .ok _ env' => ∀ P' M' σ' H', Ex P P' → Keep A σ σ' → EnvOk G P' env' σ' M' → Hold P' (M' ++ F) H' → Q σ' H'
    | .exc x env' => XP G W P F (Keep A σ) x env'
    | .bad => False)
section
variable {c : Nat → Addr} {X : Cx} {W : WX} {e : Expr}
theorem XE.pe {m : ME} (h : XE c X W e m) : PE X e (rE ⟨X.K, c⟩ W m) := let ⟨_, p, s⟩ := h; ⟨fun pins st σ H Q I ⟨P, M, F, env, y, w, q⟩ => p.run pins st σ H Q I (s.run P M F env σ H Q y w q)⟩
theorem XD.pe {m : MD} (h : XD c X W e m) : PE X e (rD ⟨X.K, c⟩ W m) := let ⟨_, p, s⟩ := h; ⟨fun pins st σ H Q I ⟨P, M, F, env, y, w, q⟩ => p.run pins st σ H Q I (s.run P M F env σ H Q y w q)⟩
theorem XT.pe {m : MB} (h : XT c X W e m) : PT X e (rT ⟨X.K, c⟩ W m) := let ⟨_, p, s⟩ := h; ⟨fun pins st σ H Q I ⟨P, M, F, env, y, w, q⟩ => p.run pins st σ H Q I (s.run P M F env σ H Q y w q)⟩
theorem XG.pe {A : AS} {m : MG} (h : XG c X W A e m) : PG X e (rG ⟨X.K, c⟩ W A m) := let ⟨_, p, s⟩ := h; ⟨fun pins st σ H v u Q I r ⟨P, M, F, env, t, hh, y, o, w, q⟩ => p.run pins st σ H v u Q I r (s.run P M F env σ H t v hh Q y o w q)⟩
end
theorem SD.canon {G : Gx} {W : WX} {m : MD} : SD G W (rD G W m) m := ⟨fun P M F env σ H Q y w q => ⟨P, M, F, env, y, w, q⟩⟩
theorem ST.canon {G : Gx} {W : WX} {m : MB} : ST G W (rT G W m) m := ⟨fun P M F env σ H Q y w q => ⟨P, M, F, env, y, w, q⟩⟩
theorem SG.canon {G : Gx} {W : WX} {A : AS} {m : MG} : SG G W A (rG G W A m) m := ⟨fun P M F env σ H t v h Q y o w q => ⟨P, M, F, env, t, h, y, o, w, q⟩⟩
theorem SE.canon {G : Gx} {W : WX} {m : ME} : SE G W (rE G W m) m := ⟨fun P M F env σ H Q y w q => ⟨P, M, F, env, y, w, q⟩⟩

/-! ### comprehensions -/
def wipeE (e : Env) : List Nat → Env
  | [] => e
  | v :: vs => (wipeE e vs).set v none
def unwipeE (e0 : Env) (e : Env) : List Nat → Env
  | [] => e
  | v :: vs => match (e0[v]?).join with
    | some (.d x) => (unwipeE e0 e vs).set v (some (.d x))
    | _ => unwipeE e0 e vs
def WF : WX := fun _ _ _ _ => False
def mYes : MB := fun env => .ok true env
def compGo (vs : List Nat) (g : MG) (t : MB) (m : MD) : List D → Env → List D → Rs (List D)
  | [], e, acc => .ok acc e
  | d :: r, e, acc => match g (.d d) e with
    | .ok _ e1 => match t e1 with
      | .ok true e2 => match m e2 with
        | .ok x e3 => if acc.length < sizeLine then compGo vs g t m r (wipeE e3 vs) (acc ++ [x]) else .bad
        | _ => .bad
      | .ok false e2 => compGo vs g t m r (wipeE e2 vs) acc
      | _ => .bad
    | _ => .bad
def mComp (vs : List Nat) (f : List T → Option (List D)) (ma : MA) (g : MG) (t : MB) (m : MD) : ME := fun env => (ma env).bind fun os e1 => match takeOps os e1 with
  | none => .bad
  | some (ts, e2) => match f ts with
    | none => .bad
    | some ds => match compGo vs g t m ds (wipeE e2 vs) [] with
      | .ok acc e3 => .ok (.l acc) (putOps os (ts.map some) (unwipeE e2 e3 vs))
      | _ => .bad
section
variable {G : Gx} {P P' : Hp} {σ σ' : St} {env : Env} {M : Cells}
theorem EnvOk.wiped : ∀ (vs : List Nat), EnvOk G P env σ M → ∃ M' M2, M.Perm (M' ++ M2) ∧ EnvOk G P (wipeE env vs) (wipe σ vs) M'
  | [], y => ⟨M, [], by simp, y⟩
  | v :: vs, y => by
    obtain ⟨M', M2, p, z⟩ := EnvOk.wiped vs y
    obtain ⟨M3, M4, p2, z2⟩ := EnvOk.setNone v none z
    exact ⟨M3, M4 ++ M2, p.trans ((List.Perm.append_right M2 p2).trans (by rw [List.append_assoc])), z2⟩
/-- slots without a thing may hold anything -/
theorem EnvOk.free (y : EnvOk G P env σ M) (hl : σ'.length = σ.length) (h : ∀ (j : Nat) (t : T), env[j]? = some (some t) → σ'[j]? = σ[j]?) : EnvOk G P env σ' M := by
  induction env generalizing σ σ' M with
  | nil => obtain ⟨rfl, rfl⟩ := y; exact ⟨List.length_eq_zero_iff.mp hl, rfl⟩
  | cons o r ih =>
    cases o with
    | none =>
      obtain ⟨v, s, rfl, y⟩ := y
      cases σ' with
      | nil => simp at hl
      | cons v' s' => exact ⟨v', s', rfl, ih y (by simpa using hl) fun j t e => by have := h (j + 1) t (by simpa using e); simpa using this⟩
    | some u =>
      obtain ⟨v, s, g, M', rfl, rfl, o, y⟩ := y
      cases σ' with
      | nil => simp at hl
      | cons v' s' =>
        have h0 := h 0 u rfl
        simp at h0
        subst h0
        exact ⟨v, s', g, M', rfl, rfl, o, ih y (by simpa using hl) fun j t e => by have := h (j + 1) t (by simpa using e); simpa using this⟩
theorem wipeE_at : ∀ {vs : List Nat} {j : Nat}, j ∈ vs → ∀ t, (wipeE env vs)[j]? ≠ some (some t)
  | v :: vs, j, h, t => by
    unfold wipeE
    by_cases e : v = j
    · subst e
      by_cases hl : v < (wipeE env vs).length
      · rw [List.getElem?_set_self hl]; simp
      · rw [List.getElem?_eq_none (by simpa using hl)]; simp
    · rw [List.getElem?_set_ne e]
      exact wipeE_at (by rcases List.mem_cons.mp h with h | h; exact absurd h.symm e; exact h) t
theorem wipe_idem (σ : St) (vs : List Nat) (h : ∀ j : Nat, j ∉ vs → σ'[j]? = (wipe σ vs)[j]?) (hl : σ'.length = σ.length) : wipe σ' vs = wipe σ vs := by
  apply List.ext_getElem?
  intro j
  by_cases hj : j ∈ vs
  · have key : ∀ (s : St) (ws : List Nat), j ∈ ws → (wipe s ws)[j]? = if j < s.length then some none else none := fun s ws => by
      induction ws with
      | nil => intro h; cases h
      | cons v r ih =>
        intro hm
        unfold wipe
        by_cases e : v = j
        · subst e
          by_cases hv : v < (wipe s r).length
          · rw [List.getElem?_set_self hv, if_pos (by rw [wipe_length] at hv; exact hv)]
          · rw [List.getElem?_eq_none (by simpa using hv), if_neg (by rw [wipe_length] at hv; exact hv)]
        · rw [List.getElem?_set_ne e]
          exact ih (by rcases List.mem_cons.mp hm with h | h; exact absurd h.symm e; exact h)
    rw [key σ' vs hj, key σ vs hj, hl]
  · rw [wipe_out (σ := σ') hj, h j hj]
theorem unwipe_ok {P0 : Hp} {e0 : Env} {M0 : Cells} (y0 : EnvOk G P0 e0 σ M0) (x : Ex P0 P) : ∀ {vs : List Nat} {e : Env} {M : Cells}, EnvOk G P e σ M → ∃ M' M2, M.Perm (M' ++ M2) ∧ EnvOk G P (unwipeE e0 e vs) σ M'
  | [], e, M, y => ⟨M, [], by simp, y⟩
  | v :: vs, e, M, y => by
    obtain ⟨M', M2, p, z⟩ := unwipe_ok y0 x (vs := vs) y
    unfold unwipeE
    cases q : (e0[v]?).join with
    | none => exact ⟨M', M2, p, z⟩
    | some t =>
      cases t with
      | d d =>
        obtain ⟨w, h, M3, s1, s2, s3, s4⟩ := y0.take (join_some q)
        obtain ⟨rfl, r⟩ := s3
        obtain ⟨M4, M5, p2, z2⟩ := EnvOk.back (t := .d d) (h := []) z s1 ⟨rfl, r.mono x⟩
        exact ⟨M4, M5 ++ M2, p.trans ((List.Perm.append_right M2 p2).trans (by rw [List.append_assoc])), z2⟩
      | _ => exact ⟨M', M2, p, z⟩
end
section
variable {G : Gx} {W : WX} {A : AS}
theorem SIt.comp {wi : TI} {f : List T → Option (List D)} {ma : MA} {g : TG} {mg : MG} {tt : TT} {mt : MB} {te : TE} {m : MD} {vs : List Nat} (hA : A.all (fun j => vs.contains j) = true) (h : SIt G W wi f ma) (hg : SG G WF A g mg) (ht : ST G WF tt mt) (he : SD G WF te m) :
    SE G W (tLc wi g tt te vs) (mComp vs f ma mg mt m) := ⟨fun P M F env σ H Q y w q => by
  unfold mComp at q
  refine h.run P M F env σ H _ y w ?_
  cases e1 : ma env with
  | bad => rw [e1] at q; exact q
  | exc z e' => rw [e1] at q; exact q
  | ok os env1 =>
    rw [e1, Rs.bind_ok] at q
    cases e2 : takeOps os env1 with
    | none => simp only [e2] at q
    | some p =>
      obtain ⟨ts, e3⟩ := p
      simp only [e2] at q ⊢
      cases e4 : f ts with
      | none => simp only [e4] at q
      | some ds =>
        simp only [e4] at q ⊢
        intro P0 M0 us h0 Fx H0 J x0 z0 a0 y0 w0 ij D hD
        obtain ⟨Gd, Y, wk, gd, yd⟩ := ij
        cases er : compGo vs mg mt m ds (wipeE e3 vs) [] with
        | bad => simp only [er] at q
        | exc z e' => simp only [er] at q
        | ok accZ eZ =>
          simp only [er] at q
          obtain ⟨M1, M2, p1, y1⟩ := y0.wiped vs
          -- the frame: what was wiped, what is walked, the rest
          have hw : ∀ {P' : Hp} {N : Cells} {o : HO} {H' : Hp}, Hold P' ((D, o) :: (N ++ (M2 ++ (Fx ++ F)))) H' → Hold P' (((D, o) :: (N ++ (M2 ++ F))) ++ Fx) H' := fun w => w.perm (perm_by fun a => by simp only [List.count_append, List.count_cons]; omega)
          refine lc_it wk (fun i H' => ∃ P' M' env' acc va, compGo vs mg mt m (ds.drop i) env' acc = .ok accZ eZ ∧ Ex P0 P' ∧ EnvOk G P' env' (wipe σ vs) M' ∧ (∀ j ∈ vs, ∀ t, env'[j]? ≠ some (some t)) ∧ Reps G P' acc va ∧ Hold P' ((D, .lst va) :: (M' ++ (M2 ++ (Fx ++ F)))) H') ?_ ?_ ?_ ?_
          · refine ⟨P0, M1, _, [], [], er, Ex.refl _, y1, fun j hj => wipeE_at hj, rfl, ?_⟩
            exact (w0.perm (perm_by fun a => by
              have c1 := p1.count_eq a
              simp only [List.count_append] at c1 ⊢
              omega) : Hold P0 (M1 ++ (M2 ++ (Fx ++ F))) H0).new hD
          · rintro i H' _ ⟨P', M', env', acc, va, _, x', _, _, _, w'⟩
            exact gd P' H' x' (hw w').dropL
          · rintro i x H' H2 hi ⟨P', M', env', acc, va, er', x', y', fr', ra, w'⟩ yi
            obtain ⟨P2, d, hd, x2, w2, r2⟩ := yd i P' _ H' x H2 hi x' (hw w') yi
            have ed : ds.drop i = d :: ds.drop (i + 1) := by
              obtain ⟨h1, h2⟩ := List.getElem?_eq_some_iff.mp hd
              rw [List.drop_eq_getElem_cons h1, h2]
            rw [ed] at er'
            unfold compGo at er'
            cases eg : mg (.d d) env' with
            | bad => simp only [eg] at er'; cases er'
            | exc zx ee => simp only [eg] at er'; cases er'
            | ok _ e5 =>
              simp only [eg] at er'
              have w3 : Hold P2 ([] ++ (M' ++ ((D, .lst va) :: (M2 ++ (Fx ++ F))))) H2 := w2.perm (perm_by fun a => by simp only [List.count_append, List.count_nil, List.count_cons]; omega)
              refine hg.run P2 M' ((D, .lst va) :: (M2 ++ (Fx ++ F))) env' (wipe σ vs) H2 (.d d) x [] _ (y'.mono x2) ⟨rfl, r2⟩ w3 ?_
              rw [eg]
              intro P3 M3 σ3 H3 x3 k3 y3 w4
              have ew : wipe σ3 vs = wipe σ vs := wipe_idem σ vs (fun j hj => k3.at_ j (by
                unfold aHas
                rw [Bool.eq_false_iff]
                intro hc
                obtain ⟨k, hk, ek⟩ := List.any_eq_true.mp hc
                have : k = j := by simpa using ek
                subst this
                have := List.all_eq_true.mp hA k hk
                exact hj (by simpa using this))) (by rw [k3.len, wipe_length])
              refine ⟨ew, ?_⟩
              refine ht.run P3 M3 _ e5 σ3 H3 _ y3 w4 ?_
              -- the turn's end: the block's own names are forgotten
              have fin : ∀ {P5 : Hp} {M5 : Cells} {e6 : Env} {acc' : List NS.D} {va' : List V} {H5 : Hp}, compGo vs mg mt m (ds.drop (i + 1)) (wipeE e6 vs) acc' = .ok accZ eZ → Ex P0 P5 → EnvOk G P5 e6 σ3 M5 → Reps G P5 acc' va' → Hold P5 ((D, .lst va') :: (M5 ++ (M2 ++ (Fx ++ F)))) H5 →
                  ∃ P' M' env' acc va, compGo vs mg mt m (ds.drop (i + 1)) env' acc = .ok accZ eZ ∧ Ex P0 P' ∧ EnvOk G P' env' (wipe σ vs) M' ∧ (∀ j ∈ vs, ∀ t, env'[j]? ≠ some (some t)) ∧ Reps G P' acc va ∧ Hold P' ((D, .lst va) :: (M' ++ (M2 ++ (Fx ++ F)))) H5 := fun {P5 M5 e6 acc' va' H5} ee xx yy rr ww => by
                obtain ⟨M6, M7, p6, y6⟩ := yy.wiped vs
                rw [ew] at y6
                refine ⟨P5, M6, _, acc', va', ee, xx, y6, fun j hj => wipeE_at hj, rr, Hold.dropL (M := M7) (ww.perm (perm_by fun a => ?_))⟩
                have c1 := p6.count_eq a
                simp only [List.count_append, List.count_cons] at c1 ⊢
                omega
              cases et : mt e5 with
              | bad => simp only [et] at er'; cases er'
              | exc zx ee => simp only [et] at er'; cases er'
              | ok b e6 =>
                simp only [et] at er'
                intro P4 M4 H4 x4 y4 w5
                cases b with
                | false =>
                  rw [if_neg (by decide)]
                  simp only at er'
                  exact fin er' (((x'.trans x2).trans x3).trans x4) y4 (((ra.mono x2).mono x3).mono x4) (w5.perm (perm_by fun a => by simp only [List.count_append, List.count_cons]; omega))
                | true =>
                  rw [if_pos rfl]
                  simp only at er'
                  refine he.run P4 M4 _ e6 σ3 H4 _ y4 w5 ?_
                  cases em : m e6 with
                  | bad => simp only [em] at er'; cases er'
                  | exc zx ee => simp only [em] at er'; cases er'
                  | ok x5 e7 =>
                    simp only [em] at er'
                    by_cases hl : acc.length < sizeLine
                    · rw [if_pos hl] at er'
                      intro P5 M5 v5 H5 x5' y5 r5 w6
                      have w7 : Hold P5 ((D, .lst va) :: (M5 ++ (M2 ++ (Fx ++ F)))) H5 := w6.perm (perm_by fun a => by simp only [List.count_append, List.count_cons]; omega)
                      refine ⟨va, w7.at_ _ List.mem_cons_self, by rw [ra.len]; exact hl, ?_⟩
                      exact fin er' ((((x'.trans x2).trans x3).trans x4).trans x5') y5 (((((ra.mono x2).mono x3).mono x4).mono x5').app (Reps.one r5)) w7.put
                    · rw [if_neg hl] at er'; cases er'
          · rintro H' ⟨P', M', env', acc, va, er', x', y', fr', ra, w'⟩
            rw [List.drop_length] at er'
            simp only [compGo, Rs.ok.injEq] at er'
            obtain ⟨rfl, rfl⟩ := er'
            have y2 : EnvOk G P' env' σ M' := y'.free (by rw [wipe_length]) fun j t e => by
              have hj : j ∉ vs := fun hj => fr' j hj t e
              rw [wipe_out (σ := σ) hj]
            obtain ⟨M5, M6, p5, y5⟩ := unwipe_ok y0 x' (vs := vs) y2
            obtain ⟨M7, M8, p7, y7⟩ := putOps.ok z0 (a0.mono x') y5
            refine q P' M7 (.ref D) [(D, .lst va)] H' (x0.trans x') y7 ⟨D, va, rfl, rfl, ra⟩ (Hold.dropL (M := M8 ++ (M6 ++ M2)) (w'.perm (perm_by fun a => ?_)))
            have c1 := p5.count_eq a
            have c2 := p7.count_eq a
            simp only [List.count_append, List.count_cons, List.count_nil] at c1 c2 ⊢
            omega⟩
end
structure STs (G : Gx) (W : WX) (tt : TT) (m : MB) : Prop where
  s : ST G W tt m
def XTs (c : Nat → Addr) (X : Cx) (W : WX) (es : List Expr) (m : MB) : Prop := PTs X es (rT ⟨X.K, c⟩ W m)
section
variable {c : Nat → Addr} {X : Cx} {W : WX} {e : Expr}
theorem xts_nil : XTs c X W [] mYes := ⟨fun pins s σ H Q I ⟨P, M, F, env, y, w, q⟩ => (pts_nil (X := X)).run pins s σ H Q I (q P M H (Ex.refl P) y w)⟩
theorem xts_one {m : MB} (h : XT c X W e m) : XTs c X W [e] m := pts_one h.pe
end
section
variable {c : Nat → Addr} {X : Cx} {W : WX} {A : AS} {pos : Pos} {elt tg iter : Expr} {ifs : List Expr} {scope : Scope} {own : List (Str × Nat)} {f : List T → Option (List D)} {ma : MA} {mg : MG} {mt : MB} {m : MD}
/-- [elt for tg in iter if ..] -/
theorem xe_comp (hc : X.calm = true) (hN : X.N.Nodup) (h : XIt c X W tg iter f ma) (ok : blkC X.N X.env.scope scope own = true)
    (hg : ∀ (s : Shared) (H : Hp) (C : Addr) (cl : List (Str × Addr)) (fp : List Addr), XG c (X.blk s H scope (compEnvC scope cl C X.env) fp) WF A tg mg) (ht : ∀ (s : Shared) (H : Hp) (C : Addr) (cl : List (Str × Addr)) (fp : List Addr), XTs c (X.blk s H scope (compEnvC scope cl C X.env) fp) WF ifs mt)
    (he : ∀ (s : Shared) (H : Hp) (C : Addr) (cl : List (Str × Addr)) (fp : List Addr), XD c (X.blk s H scope (compEnvC scope cl C X.env) fp) WF elt m) (hA : A.all (fun j => (own.map (·.2)).contains j) = true) (hs : ∀ x, foldedSetIterable iter X.env x = pure x := by intro _; rfl) :
    XE c X W (.ListComp elt [⟨tg, iter, ifs, 0⟩] scope pos) (mComp (own.map (·.2)) f ma mg mt m) := let ⟨_, p, s⟩ := h
  ⟨_, pe_lc (tt := rT ⟨X.K, c⟩ WF mt) hc hN p (blkOk_by ok) (fun s H C cl fp => (hg s H C cl fp).pe) (fun s H C cl fp => ht s H C cl fp) (fun s H C cl fp => (he s H C cl fp).pe) hs, SIt.comp hA s SG.canon ST.canon SD.canon⟩
/-- name = [..] -/
theorem xs_setComp {i : Nat} {y : Str} {py spos : Pos} (hc : X.calm = true) (hN : X.N.Nodup) (h : XIt c X W tg iter f ma) (ok : blkC X.N X.env.scope scope own = true)
    (hg : ∀ (s : Shared) (H : Hp) (C : Addr) (cl : List (Str × Addr)) (fp : List Addr), XG c (X.blk s H scope (compEnvC scope cl C X.env) fp) WF A tg mg) (ht : ∀ (s : Shared) (H : Hp) (C : Addr) (cl : List (Str × Addr)) (fp : List Addr), XTs c (X.blk s H scope (compEnvC scope cl C X.env) fp) WF ifs mt)
    (he : ∀ (s : Shared) (H : Hp) (C : Addr) (cl : List (Str × Addr)) (fp : List Addr), XD c (X.blk s H scope (compEnvC scope cl C X.env) fp) WF elt m) (hA : A.all (fun j => (own.map (·.2)).contains j) = true)
    (hy : X.N[i]? = some y) (hyl : X.env.scope.names.lookup y = some .local) (hsw : swapsWith (.ListComp elt [⟨tg, iter, ifs, 0⟩] scope pos) (some (.Name y py)) spos.line X.env = pure true) (mm : ME → ME) {A2 : AS} {mg2 : MG} (hset : ∀ te, SE ⟨X.K, c⟩ W te (mComp (own.map (·.2)) f ma mg mt m) → SE ⟨X.K, c⟩ W te (mm (mComp (own.map (·.2)) f ma mg mt m)))
    (hg2 : SG ⟨X.K, c⟩ W A2 (gName i) mg2) (hs : ∀ x, foldedSetIterable iter X.env x = pure x := by intro _; rfl) :
    XS c X W A2 (.Assign [.Name y py] (.ListComp elt [⟨tg, iter, ifs, 0⟩] scope pos) spos) (mAsg (mm (mComp (own.map (·.2)) f ma mg mt m)) mg2) := let ⟨_, p, s⟩ := h
  ⟨_, ps_setLc (tt := rT ⟨X.K, c⟩ WF mt) hc hN hy hyl hsw p (blkOk_by ok) (fun s H C cl fp => (hg s H C cl fp).pe) (fun s H C cl fp => ht s H C cl fp) (fun s H C cl fp => (he s H C cl fp).pe) hs, SS.asg (hset _ (SIt.comp hA s SG.canon ST.canon SD.canon)) hg2⟩
end
end NS
namespace NS
open PySem L2

/-! ### methods of a list of one's own -/
def mUpd (i : Nat) (f : List D → List D → Option (List D × D)) (ms : MDs) : ME := fun env => if isOwnL env i = true then (ms env).bind fun ds e => match (e[i]?).join with
    | some (.l xs) => match f xs ds with
      | some (xs', d) => .ok (.d d) (e.set i (some (.l xs')))
      | none => .bad
    | _ => .bad
  else .bad
def UpdS (G : Gx) (r : V → List V → Hp → VK → Prop) (f : List D → List D → Option (List D × D)) : Prop := ∀ (P : Hp) (l : Addr) (xs : List D) (vs : List V) (ds : List D) (ws : List V) (H : Hp) (Q : VK) (xs' : List D) (d : D),
  Ex P H → H l = some (.lst vs) → Reps G P xs vs → Reps G P ds ws → f xs ds = some (xs', d) → (∀ vs' v, Reps G P xs' vs' → Rep G P d v → Q v (upd H l (.lst vs'))) → r (.ref l) ws H Q
def uAppend (xs ds : List D) : Option (List D × D) := match ds with
  | [d] => if xs.length < sizeLine then some (xs ++ [d], .non) else none
  | _ => none
def uInsert (xs ds : List D) : Option (List D × D) := match ds with
  | [.int i, d] => if xs.length < sizeLine ∧ 0 ≤ i ∧ i < 2 ^ 63 then some (xs.take i.toNat ++ [d] ++ xs.drop i.toNat, .non) else none
  | _ => none
def uPop (xs ds : List D) : Option (List D × D) := match ds with
  | [] => (xs[xs.length - 1]?).bind fun d => some (xs.dropLast, d)
  | _ => none
def uPopAt (xs ds : List D) : Option (List D × D) := match ds with
  | [.int i] => if xs.length ≤ sizeLine then (ixN xs.length i).bind fun k => (xs[k]?).bind fun d => some (xs.eraseIdx k, d) else none
  | _ => none
def uReverse (xs ds : List D) : Option (List D × D) := match ds with
  | [] => some (xs.reverse, .non)
  | _ => none
def uClear (xs ds : List D) : Option (List D × D) := match ds with
  | [] => some ([], .non)
  | _ => none
def uExtend (xs ds : List D) : Option (List D × D) := match ds with
  | [.lst ys] => if xs.length + ys.length ≤ sizeLine then some (xs ++ ys, .non) else none
  | _ => none
@[simp] theorem uAppend_one (xs : List D) (d : D) : uAppend xs [d] = if xs.length < sizeLine then some (xs ++ [d], .non) else none := rfl
@[simp] theorem uInsert_one (xs : List D) (i : Int) (d : D) : uInsert xs [.int i, d] = if xs.length < sizeLine ∧ 0 ≤ i ∧ i < 2 ^ 63 then some (xs.take i.toNat ++ [d] ++ xs.drop i.toNat, .non) else none := rfl
@[simp] theorem uPopAt_one (xs : List D) (i : Int) : uPopAt xs [.int i] = if xs.length ≤ sizeLine then (ixN xs.length i).bind fun k => (xs[k]?).bind fun d => some (xs.eraseIdx k, d) else none := rfl
section
variable {G : Gx}
theorem Reps.dropLast {P : Hp} {ds : List D} {vs : List V} (r : Reps G P ds vs) : Reps G P ds.dropLast vs.dropLast := by
  rw [List.dropLast_eq_take, List.dropLast_eq_take, r.len]
  exact r.take _
theorem Reps.erase {P : Hp} {ds : List D} {vs : List V} (r : Reps G P ds vs) (k : Nat) : Reps G P (ds.eraseIdx k) (vs.eraseIdx k) := by
  rw [List.eraseIdx_eq_take_drop_succ, List.eraseIdx_eq_take_drop_succ]
  exact (r.take _).app (r.drop _)
theorem Reps.two {P : Hp} {a b : D} {ws : List V} (r : Reps G P [a, b] ws) : ∃ v w, ws = [v, w] ∧ Rep G P a v ∧ Rep G P b w := by
  obtain ⟨v, x, rfl, h1, w, y, rfl, h2, h3⟩ := r
  exact ⟨v, w, by rw [show y = [] from h3], h1, h2⟩
theorem Reps.un {P : Hp} {a : D} {ws : List V} (r : Reps G P [a] ws) : ∃ v, ws = [v] ∧ Rep G P a v := by
  obtain ⟨v, x, rfl, h1, h3⟩ := r
  exact ⟨v, by rw [show x = [] from h3], h1⟩
theorem upd_append : UpdS G rAppend uAppend := by
  intro P l xs vs ds ws H Q xs' d ex hl r rd e k
  match ds, e with
  | [d0], e =>
    obtain ⟨hc, e⟩ := ife e
    cases e
    obtain ⟨v, rfl, h1⟩ := rd.un
    exact ⟨l, vs, v, rfl, rfl, hl, by rw [r.len]; exact hc, k _ _ (r.app (Reps.one h1)) rfl⟩
theorem upd_insert : UpdS G (fun x vs H Q => ∃ (l : Addr) (xs : List V) (i : Int) (y : V), x = .ref l ∧ vs = [.int i, y] ∧ H l = some (.lst xs) ∧ xs.length < sizeLine ∧ 0 ≤ i ∧ i < 2 ^ 63 ∧
    Q .non (upd H l (.lst (xs.take i.toNat ++ [y] ++ xs.drop i.toNat)))) uInsert := by
  intro P l xs vs ds ws H Q xs' d ex hl r rd e k
  match ds, e with
  | [.int i, d0], e =>
    obtain ⟨hc, e⟩ := ife e
    cases e
    obtain ⟨v, w, rfl, h1, h2⟩ := rd.two
    cases (show v = .int i from h1)
    exact ⟨l, vs, i, w, rfl, rfl, hl, by rw [r.len]; exact hc.1, hc.2.1, hc.2.2, k _ _ (((r.take _).app (Reps.one h2)).app (r.drop _)) rfl⟩
theorem upd_popAt : UpdS G rPopAt uPopAt := by
  intro P l xs vs ds ws H Q xs' d ex hl r rd e k
  match ds, e with
  | [.int i], e =>
    simp only [uPopAt_one] at e
    by_cases hz : xs.length ≤ sizeLine
    · rw [if_pos hz] at e
      obtain ⟨j, e1, e⟩ := obind e
      obtain ⟨d1, e2, e⟩ := obind e
      cases e
      obtain ⟨v, rfl, h1⟩ := rd.un
      cases (show v = .int i from h1)
      obtain ⟨q1, q2, q3, q4⟩ := ixN_seq e1
      obtain ⟨y, e3, r3⟩ := r.get e2
      have hn := line63
      exact ⟨l, vs, i, j, y, rfl, rfl, hl, by omega, by omega, by rw [r.len]; exact q1, e3, k _ _ (r.erase j) r3⟩
    · rw [if_neg hz] at e; cases e
theorem upd_extend : UpdS G rExtend uExtend := by
  intro P l xs vs ds ws H Q xs' d ex hl r rd e k
  match ds, e with
  | [.lst ys], e =>
    obtain ⟨hc, e⟩ := ife e
    cases e
    obtain ⟨v, rfl, a, us, rfl, s, r2⟩ := rd.un
    exact ⟨l, a, vs, us, rfl, rfl, hl, ex _ _ s, by rw [r.len, r2.len]; exact hc, k _ _ (r.app r2) rfl⟩
theorem upd_pop : UpdS G rPop uPop := by
  intro P l xs vs ds ws H Q xs' d ex hl r rd e k
  match ds, e with
  | [], e =>
    obtain ⟨d1, e2, e⟩ := obind e
    cases e
    obtain ⟨y, e3, r3⟩ := r.get e2
    exact ⟨l, vs, y, rfl, rd, hl, by rw [r.len]; exact e3, k _ _ r.dropLast r3⟩
theorem upd_reverse : UpdS G rReverse uReverse := by
  intro P l xs vs ds ws H Q xs' d ex hl r rd e k
  match ds, e with
  | [], e => cases e; exact ⟨l, vs, rfl, rd, hl, k _ _ r.rev rfl⟩
theorem upd_clear : UpdS G rClear uClear := by
  intro P l xs vs ds ws H Q xs' d ex hl r rd e k
  match ds, e with
  | [], e => cases e; exact ⟨l, vs, rfl, rd, hl, k [] _ rfl rfl⟩
theorem upd_core {W : WX} {P : Hp} {M F : Cells} {env : Env} {σ : St} {H : Hp} {i : Nat} {Q : VK} {r : V → List V → Hp → VK → Prop} {f : List D → List D → Option (List D × D)} {ds : List D} {ws : List V} {x : V} (hr : UpdS G r f) (hx : σ[i]? = some (some x))
    (y : EnvOk G P env σ M) (w : Hold P (M ++ F) H) (rd : Reps G P ds ws)
    (q : match (match (env[i]?).join with
      | some (.l xs) => match f xs ds with
        | some (xs', d) => .ok (.d d) (env.set i (some (.l xs')))
        | none => .bad
      | _ => .bad : Rs T) with
      | .ok t env' => ∀ P' M' v h H', Ex P P' → EnvOk G P' env' σ M' → Own G P' t v h → Hold P' (h ++ (M' ++ F)) H' → Q v H'
      | .exc x env' => XP G W P F (· = σ) x env'
      | .bad => False) : r x ws H Q := by
  cases e2 : (env[i]?).join with
  | none => rw [e2] at q; exact q.elim
  | some t0 =>
    rw [e2] at q
    cases t0 with
    | l xs =>
      dsimp only at q
      cases e3 : f xs ds with
      | none => rw [e3] at q; exact q.elim
      | some p =>
        obtain ⟨xs', d⟩ := p
        rw [e3] at q
        dsimp only at q
        obtain ⟨x', g', M2, s1, s2, s3, s4⟩ := y.take (join_some e2)
        rw [hx] at s1; cases s1
        obtain ⟨a, vs, rfl, rfl, rs⟩ := s3
        have w3 : Hold P ((a, .lst vs) :: (M2 ++ F)) H := w.perm (by
          have := List.Perm.append_right F s2
          simpa using this)
        refine hr P a xs vs ds ws H Q xs' d w.ex (w3.at_ _ List.mem_cons_self) rs rd e3 fun vs' v r1 r2 => ?_
        have w4 := w3.put (o' := .lst vs')
        obtain ⟨M3, M4, p3, y3⟩ := EnvOk.back (t := .l xs') (h := [(a, .lst vs')]) s4 hx ⟨a, _, rfl, rfl, r1⟩
        rw [List.set_set] at y3
        refine q P M3 v [] _ (Ex.refl P) y3 ⟨rfl, r2⟩ (Hold.dropL (M := M4) (w4.perm ?_))
        have : ((a, HO.lst vs') :: (M2 ++ F)) = ([(a, HO.lst vs')] ++ M2) ++ F := rfl
        rw [this]
        exact (List.Perm.append_right F p3).trans (perm_by fun b => by simp only [List.count_append, List.count_nil]; omega)
    | _ => exact q.elim
theorem isOwnL.ty {P : Hp} {M F : Cells} {env : Env} {σ : St} {H : Hp} {i : Nat} (h0 : isOwnL env i = true) (y : EnvOk G P env σ M) (w : Hold P (M ++ F) H) : ∃ x, σ[i]? = some (some x) ∧ tyV G.K "list" x H := by
  obtain ⟨xs0, e0⟩ := isOwnL.at h0
  obtain ⟨x, h, M', hx, s2, s3, _⟩ := y.take e0
  obtain ⟨a, vs, rfl, rfl, rs⟩ := s3
  refine ⟨_, hx, .inl ⟨rfl, vs, Evl.sq_of (w.at_ (a, .lst vs) (List.mem_append_left _ (s2.mem_iff.mpr (List.mem_append_left _ List.mem_cons_self))))⟩⟩
theorem SDs.upd {W : WX} {ta : TA} {ms : MDs} {i : Nat} {r : V → List V → Hp → VK → Prop} {f : List D → List D → Option (List D × D)} (hr : UpdS G r f) (h : SDs G W ta ms) : SE G W (tBM G.K "list" r (tVar i) ta) (mUpd i f ms) := ⟨fun P M F env σ H Q y w q => by
  unfold mUpd at q
  by_cases h0 : isOwnL env i = true
  · rw [if_pos h0] at q
    obtain ⟨x, hx, ty⟩ := isOwnL.ty h0 y w
    refine ⟨x, hx, ty, ?_⟩
    refine h.run P M F env σ H _ y w ?_
    cases e1 : ms env with
    | bad => rw [e1] at q; exact q.elim
    | exc z e' => rw [e1] at q; exact q
    | ok ds e =>
      rw [e1, Rs.bind_ok] at q
      intro P1 M1 ws H1 x1 y1 r1 w1
      refine upd_core (W := W) hr hx y1 w1 r1 ?_
      revert q
      generalize (match (e[i]?).join with
        | some (.l xs) => match f xs ds with
          | some (xs', d) => .ok (.d d) (e.set i (some (.l xs')))
          | none => .bad
        | _ => .bad : Rs T) = rr
      intro q
      cases rr with
      | bad => exact q
      | exc z e => exact XP.mono q x1
      | ok t e => exact fun P' M' v h H' a => q P' M' v h H' (x1.trans a)
  · rw [if_neg h0] at q; exact q.elim⟩
theorem SE.upd0 {W : WX} {i : Nat} {r : V → List V → Hp → VK → Prop} {f : List D → List D → Option (List D × D)} (hr : UpdS G r f) : SE G W (tBM0 G.K "list" r (tVar i)) (mUpd i f dNil) := ⟨fun P M F env σ H Q y w q => by
  unfold mUpd dNil at q
  by_cases h0 : isOwnL env i = true
  · rw [if_pos h0, Rs.bind_ok] at q
    obtain ⟨x, hx, ty⟩ := isOwnL.ty h0 y w
    exact ⟨x, hx, ty, upd_core (W := W) hr hx y w Reps.nil q⟩
  · rw [if_neg h0] at q; exact q.elim⟩
end
section
variable {c : Nat → Addr} {X : Cx} {W : WX} {apos cpos px : Pos} {e : Expr} {es : List Expr} {ms : MDs} {x : Str} {r : V → List V → Hp → VK → Prop} {f : List D → List D → Option (List D × D)} {name : Str} {id : String}
theorem xe_upd (i : Nat) (slot : Slot "list" name id) (hty : typeOf (.builtin id) = pure (.type "method_descriptor")) (hm : MtR X id r) (hr : UpdS ⟨X.K, c⟩ r f) (h : XDs c X W (e :: es) ms) (hN : X.N[i]? = some x := by rfl) (hv : Vis X.env.scope x := by first | exact Or.inl rfl | exact Or.inr (Or.inl rfl) | exact Or.inr (Or.inr rfl))
    (hd : (x == ("__debug__" : Str)) = false := by decide) (hcd : (x == ("__classdict__" : Str)) = false := by decide)
    (hbase : attributeBase (.Name x px) name X.env (eval (.Name x px) X.env) = eval (.Name x px) X.env := by rfl)
    (hfew : ((backTo cpos (starEach (e :: es) X.env)).all (fun x => !x.1) && (backToKw cpos (keywordEach [] X.env)).all (fun x => x.1.isSome)
      && decide ((e :: es).length + ([] : List Keyword).length + (if ([] : List Keyword).isEmpty then 0 else 1) < 30)) = true := by rfl)
    (hline : (apos.endLine == cpos.line) = true := by rfl) (hs : starEach (e :: es) X.env = (false, eval e X.env) :: starEach es X.env := by rfl) (hplain : (backTo cpos (starEach es X.env)).any (·.1) = false := by rfl) :
    XE c X W (.Call (.Attribute (.Name x px) name apos) (e :: es) [] cpos) (mUpd i f ms) := let ⟨_, p, s⟩ := h
  ⟨_, pe_bm PySem.F.plainAttrs_list slot hty hm (pe_var hN hv hd hcd) p hbase hfew hline hs hplain, SDs.upd hr s⟩
theorem xe_upd0 (i : Nat) (slot : Slot "list" name id) (hty : typeOf (.builtin id) = pure (.type "method_descriptor")) (hm : MtR X id r) (hr : UpdS ⟨X.K, c⟩ r f) (hN : X.N[i]? = some x := by rfl) (hv : Vis X.env.scope x := by first | exact Or.inl rfl | exact Or.inr (Or.inl rfl) | exact Or.inr (Or.inr rfl))
    (hd : (x == ("__debug__" : Str)) = false := by decide) (hcd : (x == ("__classdict__" : Str)) = false := by decide)
    (hbase : attributeBase (.Name x px) name X.env (eval (.Name x px) X.env) = eval (.Name x px) X.env := by rfl)
    (hline : (apos.endLine == cpos.line) = true := by rfl) :
    XE c X W (.Call (.Attribute (.Name x px) name apos) [] [] cpos) (mUpd i f dNil) :=
  ⟨_, pe_bm0 PySem.F.plainAttrs_list slot hty hm (pe_var hN hv hd hcd) hbase hline, SE.upd0 hr⟩
end

/-! ### x += e, of ints -/
def mAug (i : Nat) (g : Int → Int → Int) (m : ME) : MS := fun env => match (env[i]?).join with
  | some (.d (.int a)) => (m env).bind fun t e => match t with
    | .d (.int b) => if i < e.length then .ok .nx (e.set i (some (.d (.int (g a b))))) else .bad
    | _ => .bad
  | _ => .bad
theorem SE.aug {G : Gx} {W : WX} {te : TE} {m : ME} {i : Nat} {g : Int → Int → Int} (h : SE G W te m) : SS G W (aOne i) (tAug i te (ipI g)) (mAug i g m) := SS.mk' fun P M F env σ H D y w q => by
  unfold mAug at q
  cases e0 : (env[i]?).join with
  | none => rw [e0] at q; exact False.elim q
  | some t0 =>
    rw [e0] at q
    cases t0 with
    | d d0 =>
      cases d0 with
      | int a =>
        dsimp only at q
        obtain ⟨v, h0, M0, s1, _, s3, _⟩ := y.take (join_some e0)
        obtain ⟨_, s3⟩ := s3
        cases (show v = .int a from s3)
        refine ⟨.int a, s1, ?_⟩
        refine h.run P M F env σ H _ y w ?_
        cases e1 : m env with
        | bad => rw [e1] at q; exact q
        | exc z e' => rw [e1] at q; exact XP.keep q fun σ k => by rw [k]; exact Keep.refl
        | ok t e =>
          rw [e1, Rs.bind_ok] at q
          intro P1 M1 v1 h1 H1 x1 y1 o1 w1
          cases t with
          | d d1 =>
            cases d1 with
            | int b =>
              dsimp only at q
              by_cases hi : i < e.length
              · rw [if_pos hi] at q
                obtain ⟨rfl, o1⟩ := o1
                refine ⟨a, b, rfl, o1, ?_⟩
                obtain ⟨M3, M4, p3, y3⟩ := EnvOk.put (t := .d (.int (g a b))) (v := .int (g a b)) (h := []) y1 hi ⟨rfl, rfl⟩
                refine q P1 M3 _ H1 x1 Keep.one y3 (Hold.dropL (M := M4) (w1.perm (perm_by fun b => ?_)))
                have c1 := p3.count_eq b
                simp only [List.count_append, List.count_nil] at c1 ⊢
                omega
              · rw [if_neg hi] at q; exact False.elim q
            | _ => exact False.elim q
          | _ => exact False.elim q
      | _ => exact False.elim q
    | _ => exact False.elim q
section
variable {c : Nat → Addr} {X : Cx} {W : WX} {pos p2 : Pos} {e : Expr} {x : Str} {m : ME}
theorem xs_aug (i : Nat) {op : Operator} {g : Int → Int → Int} (hN : X.N.Nodup) (ho : PIp X op (ipI g)) (h : XE c X W e m) (hi : X.N[i]? = some x := by rfl) (hx : Loc X.env.scope x := by first | exact Or.inl rfl | exact Or.inr rfl) (hf : X.fn x = true ∨ X.env.scope.names.lookup x = some .local := by first | exact .inl rfl | exact .inr rfl) :
    XS c X W (aOne i) (.AugAssign (.Name x p2) op e pos) (mAug i g m) := let ⟨_, p, s⟩ := h; ⟨_, ps_aug hN hi hx p ho hf, SE.aug s⟩
end

/-! ### a def -/
def outs (A : AS) : List T → Nat → Env → Env
  | [], _, _ => []
  | .d x :: r, i, e => some (.d x) :: outs A r (i + 1) e
  | _ :: r, i, e => (if aHas A i = true then none else (e[i]?).join) :: outs A r (i + 1) e
def mFn (n l : Nat) (A : AS) (m : MS) : Fn := fun ts => if ts.length = n then match m (ts.map some ++ List.replicate (l - n) none) with
    | .ok (.rt t) e => .ok t (outs A ts 0 e)
    | .ok .nx e => .ok (.d .non) (outs A ts 0 e)
    | .exc x e => .exc x (outs A ts 0 e)
    | _ => .bad
  else .bad
theorem mFn_len {n l : Nat} {A : AS} {m : MS} {ts : List T} (h : mFn n l A m ts ≠ .bad) : ts.length = n := by
  unfold mFn at h
  by_cases e : ts.length = n
  · exact e
  · rw [if_neg e] at h; exact absurd rfl h
section
variable {G : Gx}
theorem outs_at {A : AS} : ∀ {ts : List T} {i : Nat} {e e' : Env}, (∀ j : Nat, i ≤ j → e'[j]? = e[j]?) → outs A ts i e' = outs A ts i e
  | [], _, _, _, _ => rfl
  | t :: r, i, e, e', h => by
    have ih := outs_at (A := A) (ts := r) (i := i + 1) (e := e) (e' := e') fun j hj => h j (by omega)
    cases t <;> simp only [outs, ih, h i (Nat.le_refl i)]
theorem outs_ok {P0 P : Hp} {A : AS} (x : Ex P0 P) : ∀ {ts : List T} {vs : List V} {i : Nat} {M0 : Cells} {e : Env} {σ : St} {M : Cells}, EnvOk G P0 (ts.map some) (vs.map some) M0 → EnvOk G P e σ M → (∀ (j : Nat) v, vs[j]? = some v → aHas A (i + j) = false → σ[i + j]? = some (some v)) →
    ∃ M' M2, M.Perm (M' ++ M2) ∧ EnvOk G P (outs A ts i e) (vs.map some) M'
  | [], vs, i, M0, e, σ, M, a, y, h => ⟨[], M, by simp, a.1, rfl⟩
  | t :: r, [], i, M0, e, σ, M, a, y, h => by obtain ⟨v, s, g, M1, e1, _⟩ := a; cases e1
  | t :: r, v :: vs, i, M0, e, σ, M, ⟨v', s, g, M1, e1, e2, o, a⟩, y, h => by
    simp only [List.map_cons, List.cons.injEq, Option.some.injEq] at e1
    obtain ⟨rfl, rfl⟩ := e1
    have recu : ∀ {e' : Env} {M' : Cells}, EnvOk G P e' σ M' → ∃ M2 M3, M'.Perm (M2 ++ M3) ∧ EnvOk G P (outs A r (i + 1) e') (vs.map some) M2 := fun y' =>
      outs_ok x a y' fun j w hj ha => by
        have := h (j + 1) w (by simpa using hj) (by rw [show i + (j + 1) = i + 1 + j by omega]; exact ha)
        rw [show i + (j + 1) = i + 1 + j by omega] at this
        exact this
    have own : (∀ d, t ≠ .d d) → ∃ M' M2, M.Perm (M' ++ M2) ∧ EnvOk G P ((if aHas A i = true then none else (e[i]?).join) :: outs A r (i + 1) e) ((v :: vs).map some) M' := fun ht => by
      by_cases hA : aHas A i = true
      · rw [if_pos hA]
        obtain ⟨M2, M3, p, z⟩ := recu y
        exact ⟨M2, M3, p, some v, vs.map some, rfl, z⟩
      · rw [if_neg hA]
        cases q : (e[i]?).join with
        | none =>
          obtain ⟨M2, M3, p, z⟩ := recu y
          exact ⟨M2, M3, p, some v, vs.map some, rfl, z⟩
        | some u =>
          obtain ⟨w, g2, M4, s1, s2, s3, s4⟩ := y.take (join_some q)
          have hv := h 0 v rfl (by simpa using hA)
          rw [Nat.add_zero, s1] at hv
          cases hv
          obtain ⟨M2, M3, p, z⟩ := recu s4
          rw [outs_at (e := e) (e' := e.set i none) fun j hj => List.getElem?_set_ne (by omega)] at z
          refine ⟨g2 ++ M2, M3, s2.trans ?_, v, vs.map some, g2, M2, rfl, rfl, s3, z⟩
          rw [List.append_assoc]
          exact List.Perm.append_left g2 p
    cases t with
    | d d =>
      obtain ⟨rfl, rr⟩ := o
      obtain ⟨M2, M3, p, z⟩ := recu y
      exact ⟨M2, M3, p, v, vs.map some, [], M2, rfl, rfl, ⟨rfl, rr.mono x⟩, z⟩
    | l _ => exact own fun d z => nomatch z
    | k _ => exact own fun d z => nomatch z
    | o _ _ => exact own fun d z => nomatch z
theorem nones (P : Hp) : ∀ n : Nat, EnvOk G P (List.replicate n none) (List.replicate n none) []
  | 0 => ⟨rfl, rfl⟩
  | n + 1 => ⟨none, _, rfl, nones P n⟩
theorem EnvOk.app {P : Hp} : ∀ {e f : Env} {σ τ : St} {M N : Cells}, EnvOk G P e σ M → EnvOk G P f τ N → EnvOk G P (e ++ f) (σ ++ τ) (M ++ N)
  | [], _, _, _, _, _, ⟨h1, h2⟩, z => by subst h1 h2; exact z
  | none :: _, _, _, _, _, _, ⟨v, s, h1, y⟩, z => by subst h1; exact ⟨v, _, rfl, EnvOk.app y z⟩
  | some _ :: _, _, _, _, _, _, ⟨v, s, g, M1, h1, h2, o, y⟩, z => by subst h1 h2; exact ⟨v, _, g, _, rfl, by rw [List.append_assoc], o, EnvOk.app y z⟩
end
section
variable {P : Program} {w : World} {K : PySem.W.Frag} {mg : Str → Option Value} {base : Heap}
/-- THE RULE for a def: its body's mirror -/
theorem fn_ok {c : Nat → Addr} {x qual : Str} {st : Stmt} {f : Addr} {fd : FuncData} {N ps : List Str} {k : Nat} {A : AS} {m : MS} (F : Fun K x qual st f fd) (S : FnScope N ps (defScope st))
    (hb : ∀ (cdv : Value) (A0 : Around) (outer : List PySem.Env) (s : Shared) (H : Hp) (E : XK), Ct (cxOf (L2.CX P w) P w K mg base N qual (defScope st) f cdv A0 outer s H E) (fun cls d _ H => E cls d H) k →
      PassesOwn (model P w) (cxOf (L2.CX P w) P w K mg base N qual (defScope st) f cdv A0 outer s H E).A (cxOf (L2.CX P w) P w K mg base N qual (defScope st) f cdv A0 outer s H E).env (cxOf (L2.CX P w) P w K mg base N qual (defScope st) f cdv A0 outer s H E).xe →
      XSs c (cxOf (L2.CX P w) P w K mg base N qual (defScope st) f cdv A0 outer s H E) (fun cls d _ H => E cls d H) A (defBody st) m) :
    FnOk P w K mg base (L2.CX P w) (k + 1) f fd ps (spM ⟨K, c⟩ ps.length (mFn ps.length N.length A m)) := by
  refine F.okX S (fun vs H Q E h => ?_) (fun cdv A0 outer s H vs Q E hr h => ?_)
  · obtain ⟨_, _, _, _, _, _, e, _⟩ := h
    exact e
  · obtain ⟨t, p, ss⟩ := hb cdv A0 outer s H E ⟨S.nd, rfl, takes_of rfl rfl rfl rfl, hr⟩ (passes_of rfl)
    refine ⟨t, p, ?_⟩
    obtain ⟨P0, Fr, ts, M, y, w0, hl, q⟩ := h
    have ht : ts.length = ps.length := by rw [← hl]; simpa using y.len.symm
    have hN : ps.length ≤ N.length := by
      have := S.pre
      rw [← this]
      rw [List.length_take]
      omega
    have y0 : EnvOk ⟨K, c⟩ P0 (ts.map some ++ List.replicate (N.length - ps.length) none) (L2.start N vs) M := by
      have z := EnvOk.app y (nones (G := ⟨K, c⟩) P0 (N.length - ps.length))
      rw [List.append_nil] at z
      unfold L2.start
      rw [hl]
      exact z
    -- the parameters' slots behind the body
    have back : ∀ {P' : Hp} {σ' : St} {e : Env} {M' : Cells}, Ex P0 P' → Keep A (L2.start N vs) σ' → EnvOk ⟨K, c⟩ P' e σ' M' → ∃ M2 M3, M'.Perm (M2 ++ M3) ∧ EnvOk ⟨K, c⟩ P' (outs A ts 0 e) (vs.map some) M2 := fun {P' σ' e M'} x k y' => by
      refine outs_ok x y y' fun j v hj ha => ?_
      rw [Nat.zero_add] at ha ⊢
      rw [k.at_ j ha]
      unfold L2.start
      have hj2 : j < vs.length := (List.getElem?_eq_some_iff.mp hj).1
      rw [List.getElem?_append_left (by rw [List.length_map]; exact hj2), List.getElem?_map, hj]
      rfl
    refine ss.run P0 M Fr _ (L2.start N vs) H _ y0 w0 ?_
    unfold mFn at q
    rw [if_pos ht] at q
    cases er : m (ts.map some ++ List.replicate (N.length - ps.length) none) with
    | bad => rw [er] at q; exact q
    | exc z e =>
      rw [er] at q
      intro P' M' cls d σ' H' x k y' w' r
      obtain ⟨M2, M3, pp, z2⟩ := back x k y'
      refine q P' M2 cls d H' x z2 (Hold.dropL (M := M3) (w'.perm (perm_by fun a => ?_))) r
      have c1 := pp.count_eq a
      simp only [List.count_append] at c1 ⊢
      omega
    | ok fl e =>
      rw [er] at q
      cases fl with
      | nx =>
        intro P' M' σ' H' x k y' w'
        obtain ⟨M2, M3, pp, z2⟩ := back x k y'
        refine q P' M2 .non [] H' x z2 ⟨rfl, rfl⟩ (Hold.dropL (M := M3) (w'.perm (perm_by fun a => ?_)))
        have c1 := pp.count_eq a
        simp only [List.count_append, List.count_nil] at c1 ⊢
        omega
      | rt t =>
        intro P' M' σ' v g H' x k y' o w'
        obtain ⟨M2, M3, pp, z2⟩ := back x k y'
        refine q P' M2 v g H' x z2 o (Hold.dropL (M := M3) (w'.perm (perm_by fun a => ?_)))
        have c1 := pp.count_eq a
        simp only [List.count_append] at c1 ⊢
        omega
      | bk => exact False.elim q
      | ct => exact False.elim q
end
end NS
namespace NS
open PySem L2

/-! ### several values at once -/
abbrev MTs := Env → Rs (List T)
structure SEs (G : Gx) (W : WX) (ta : TA) (m : MTs) : Prop where
  run : ∀ P M F env σ H Q, EnvOk G P env σ M → Hold P (M ++ F) H → (match m env with
    | .ok ts env' => ∀ P' M' vs h H', Ex P P' → EnvOk G P' env' σ M' → EnvOk G P' (ts.map some) (vs.map some) h → Hold P' (h ++ (M' ++ F)) H' → Q vs H'
    | .exc x env' => XP G W P F (· = σ) x env'
    | .bad => False) → ta σ H Q
def XEs (c : Nat → Addr) (X : Cx) (W : WX) (es : List Expr) (m : MTs) : Prop := ∃ ta, PA X es ta ∧ SEs ⟨X.K, c⟩ W ta m
def eNil : MTs := fun env => .ok [] env
def eCons (m : ME) (r : MTs) : MTs := fun env => (m env).bind fun t e => (r e).bind fun ts e2 => .ok (t :: ts) e2
def mPar (ms : MTs) (gs : MGs) : MS := fun env => (ms env).bind fun ts e => (gs ts e).bind fun _ e2 => .ok .nx e2
section
variable {G : Gx} {W : WX} {A : AS}
theorem SEs.nil : SEs G W tNil eNil := ⟨fun P M F env σ H Q y x q => q P M [] [] H (Ex.refl P) y ⟨rfl, rfl⟩ x⟩
theorem SEs.cons {te : TE} {ta : TA} {m : ME} {r : MTs} (h : SE G W te m) (h' : SEs G W ta r) : SEs G W (tCons te ta) (eCons m r) := ⟨fun P M F env σ H Q y x q => by
  unfold eCons at q
  refine h.run P M F env σ H _ y x ?_
  cases e1 : m env with
  | bad => rw [e1] at q; exact q.elim
  | exc z e' => rw [e1] at q; exact q
  | ok o1 env1 =>
    rw [e1, Rs.bind_ok] at q
    intro P1 M1 v1 h1 H1 x1 y1 z1 w1
    refine h'.run P1 M1 (h1 ++ F) env1 σ H1 _ y1 (w1.perm (perm_by fun a => by simp only [List.count_append]; omega)) ?_
    cases e2 : r env1 with
    | bad => rw [e2] at q; exact q.elim
    | exc z e' => rw [e2] at q; exact (XP.mono q x1).wide
    | ok o2 env2 =>
      rw [e2, Rs.bind_ok] at q
      intro P2 M2 v2 h2 H2 x2 y2 z2 w2
      exact q P2 M2 (v1 :: v2) (h1 ++ h2) H2 (x1.trans x2) y2 ⟨v1, v2.map some, h1, h2, rfl, rfl, z1.mono x2, z2⟩ (w2.perm (perm_by fun a => by simp only [List.count_append]; omega))⟩
theorem SEs.par {ta : TA} {ms : MTs} {i j : Nat} (hij : i ≠ j) (h : SEs G W ta ms) : SS G W (aOr (aOne i) (aOr (aOne j) aNo)) (tPar i j ta) (mPar ms (gCons' (gN i) (gCons' (gN j) gNil'))) := SS.mk' fun P M F env σ H D y w q => by
  unfold mPar at q
  refine h.run P M F env σ H _ y w ?_
  cases e1 : ms env with
  | bad => rw [e1] at q; exact q
  | exc z e' => rw [e1] at q; exact XP.keep q fun σ k => by rw [k]; exact Keep.refl
  | ok ts e =>
    rw [e1, Rs.bind_ok] at q
    intro P1 M1 vs h1 H1 x1 y1 o1 w1
    match ts, vs, o1 with
    | [], _, _ => exact False.elim q
    | [t], _, _ =>
      simp only [gCons', gNil', gN] at q
      split at q <;> exact False.elim q
    | [t, u], [], o1 => obtain ⟨_, _, _, _, e2, _⟩ := o1; cases e2
    | [t, u], [v], o1 => obtain ⟨_, _, _, _, e2, _, _, o2⟩ := o1; simp only [List.map_cons, List.map_nil, List.cons.injEq] at e2; obtain ⟨_, rfl⟩ := e2; obtain ⟨_, _, _, _, e3, _⟩ := o2; cases e3
    | [t, u], v :: z :: _ :: _, o1 => have := o1.len; simp at this
    | t :: u :: _ :: _, vs, _ =>
      simp only [gCons', gNil', gN] at q
      split at q
      · simp only [Rs.bind_ok] at q
        split at q <;> exact False.elim q
      · exact False.elim q
    | [t, u], [v, z], o1 =>
      obtain ⟨a, b, g1, g2, ev, rfl, oa, ob⟩ := own2 (vs := [v, z]) o1 rfl
      cases ev
      refine ⟨v, z, rfl, ?_⟩
      simp only [gCons', gNil', gN] at q
      by_cases hi : i < e.length
      · rw [if_pos hi] at q
        simp only [Rs.bind_ok] at q
        by_cases hj : j < (e.set i (some t)).length
        · rw [if_pos hj] at q
          simp only [Rs.bind_ok] at q
          obtain ⟨M2, M3, p2, y2⟩ := EnvOk.put y1 hi oa
          obtain ⟨M4, M5, p4, y4⟩ := EnvOk.put y2 hj ob
          refine q P1 M4 _ H1 x1 (Keep.one.l.trans (Keep.one.l.r)) y4 (Hold.dropL (M := M5 ++ M3) (w1.perm (perm_by fun b => ?_)))
          have c1 := p2.count_eq b
          have c2 := p4.count_eq b
          simp only [List.count_append] at c1 c2 ⊢
          omega
        · rw [if_neg hj] at q; exact False.elim q
      · rw [if_neg hi] at q; exact False.elim q
theorem SEs.tupAsg {ta : TA} {ms : MTs} {r : TGs} {gs : MGs} {n : Nat} (h : SEs G W ta ms) (hg : SGs G W A r gs) (hn : ∀ env ts e, ms env = .ok ts e → ts.length = n) (hz : n ≤ sizeLine) : SS G W A (tAsg (tTup ta) (gTup G.K n r)) (mPar ms gs) := SS.mk' fun P M F env σ H D y w q => by
  unfold mPar at q
  refine h.run P M F env σ H _ y w ?_
  cases e1 : ms env with
  | bad => rw [e1] at q; exact q
  | exc z e' => rw [e1] at q; exact XP.keep q fun σ k => by rw [k]; exact Keep.refl
  | ok ts e =>
    rw [e1, Rs.bind_ok] at q
    intro P1 M1 vs h1 H1 x1 y1 o1 w1
    have hl : vs.length = n := by rw [← hn _ _ _ e1]; simpa using o1.len
    refine ⟨by rw [hl]; exact hz, fun p hp => ?_⟩
    have w2 : Hold P1 (h1 ++ (M1 ++ F)) (upd H1 p (.tup vs)) := by
      have := (w1.newP (o := .tup vs) hp)
      exact ⟨fun a u ea => by rw [upd_ne (ne_of_none (w1.ex a u ea) hp)]; exact w1.ex a u ea, this.at_, w1.nd, w1.free⟩
    refine ⟨p, vs, rfl, Evl.st_of upd_same, hl, ?_⟩
    refine hg.run P1 M1 F e σ _ ts vs h1 _ y1 o1 w2 ?_
    cases e2 : gs ts e with
    | bad => rw [e2] at q; exact q
    | exc z e' => rw [e2] at q; exact XP.mono q x1
    | ok _ e3 => rw [e2] at q; exact fun P2 M2 σ2 H2 x2 k2 y2 w3 => q P2 M2 σ2 H2 (x1.trans x2) k2 y2 w3
end
theorem eCons_len {m : ME} {r : MTs} {n : Nat} (h : ∀ env ts e, r env = .ok ts e → ts.length = n) : ∀ env ts e, eCons m r env = .ok ts e → ts.length = n + 1 := fun env ts e q => by
  unfold eCons at q
  cases e1 : m env with
  | ok t e' =>
    rw [e1, Rs.bind_ok] at q
    cases e2 : r e' with
    | ok us e3 => rw [e2] at q; cases q; simp [h _ _ _ e2]
    | _ => rw [e2] at q; cases q
  | _ => rw [e1] at q; cases q
theorem eNil_len : ∀ env ts e, eNil env = .ok ts e → ts.length = 0 := fun env ts e q => by cases q; rfl
section
variable {c : Nat → Addr} {X : Cx} {W : WX} {e : Expr} {es ts : List Expr} {A : AS}
theorem xes_nil : XEs c X W [] eNil := ⟨_, pa_nil, SEs.nil⟩
theorem xes_cons {m : ME} {r : MTs} (h : XE c X W e m) (h' : XEs c X W es r) (hs : starEach (e :: es) X.env = (false, eval e X.env) :: starEach es X.env := by rfl) : XEs c X W (e :: es) (eCons m r) := let ⟨_, p, s⟩ := h; let ⟨_, p', s'⟩ := h'; ⟨_, pa_cons p p' hs, SEs.cons s s'⟩
/-- a, b = x, y: plain local names -/
theorem xs_par {i j : Nat} {x y : Str} {a b : Expr} {px py pt pos : Pos} {kt k2 pt2} {ms : MTs} (hc : X.calm = true) (hN : X.N.Nodup) (h : XEs c X W [a, b] ms) (hij : i ≠ j) (hi : X.N[i]? = some x := by rfl) (hj : X.N[j]? = some y := by rfl)
    (hx : X.env.scope.names.lookup x = some .local := by rfl) (hy : X.env.scope.names.lookup y = some .local := by rfl)
    (hw : swappedStores [.Tuple [.Name x px, .Name y py] kt pt] (.Tuple [a, b] k2 pt2) X.env = pure (some [x, y]) := by rfl)
    (hs : swapsWithSole [.Tuple [.Name x px, .Name y py] kt pt] (.Tuple [a, b] k2 pt2) pos.line X.env = pure false := by rfl) :
    XS c X W (aOr (aOne i) (aOr (aOne j) aNo)) (.Assign [.Tuple [.Name x px, .Name y py] kt pt] (.Tuple [a, b] k2 pt2) pos) (mPar ms (gCons' (gN i) (gCons' (gN j) gNil'))) := let ⟨_, p, s⟩ := h
  ⟨_, ps_par hc hN hi hj hij hx hy p hw hs, SEs.par hij s⟩
/-- other targets -/
theorem xs_tup {ms : MTs} {gs : MGs} {k k2 n : Nat} {pt pt2 pos : Pos} (hc : X.calm = true) (h : XEs c X W es ms) (hg : XGs c X W A ts gs) (hl : ∀ env us e, ms env = .ok us e → us.length = n) (hz : n ≤ 100)
    (hn : (assignEach ts X.env).length = n := by rfl) (hst : (assignEach ts X.env).findIdx? (·.1) = none := by rfl)
    (hs : swapsWithSole [.Tuple ts k pt] (.Tuple es k2 pt2) pos.line X.env = pure false := by rfl) (hw : swappedStores [.Tuple ts k pt] (.Tuple es k2 pt2) X.env = pure none := by rfl)
    (h1 : (assignEach [.Tuple ts k pt] X.env).map (·.2) = [assign (.Tuple ts k pt) X.env] := by rfl) :
    XS c X W A (.Assign [.Tuple ts k pt] (.Tuple es k2 pt2) pos) (mPar ms gs) := let ⟨_, p, s⟩ := h; let ⟨_, p', s'⟩ := hg
  ⟨_, ps_asg (pe_tup p) (pg_tup hc p' hn hst) hs hw h1, SEs.tupAsg s s' hl (Nat.le_trans hz (by decide))⟩
end

/-! ### contexts, defs -/
theorem Ct.blk {X : Cx} {W : WX} {k : Nat} (t : Ct X W k) (s : Shared) (H : Hp) (scope : Scope) (env : PySem.Env) (fp : List Addr) : Ct (X.blk s H scope env fp) WF k := ⟨t.nd, t.calm, takes0, t.room⟩
theorem fn_bad {P : Program} {w : World} {K : PySem.W.Frag} {mg : Str → Option Value} {base : Heap} {c : Nat → Addr} {k n : Nat} {f : Addr} {fd : FuncData} {ps : List Str} : FnOk P w K mg base (L2.CX P w) k f fd ps (spM ⟨K, c⟩ n fun _ => .bad) :=
  ⟨fun vs H Q E h => by obtain ⟨_, _, _, _, _, _, _, q⟩ := h; exact q.elim, fun A outer s H args us vs Q E _ _ _ _ h => by obtain ⟨_, _, _, _, _, _, _, q⟩ := h; exact q.elim⟩
theorem cal_of {P : Program} {w : World} {K : PySem.W.Frag} {mg : Str → Option Value} {base : Heap} {c : Nat → Addr} {k n : Nat} {x qual : Str} {st : Stmt} {f : Addr} {fd : FuncData} {ps : List Str} {F : Fn} (Fu : Fun K x qual st f fd) (o : FnOk P w K mg base (L2.CX P w) k f fd ps (spM ⟨K, c⟩ n F)) (hm : mg x = some (.ref f)) (b : Binds K fd ps []) (hl : ∀ ts, F ts ≠ .bad → ts.length = n) :
    Cal c P w K mg base k x n F := ⟨⟨f, fd, ps, o, hm, Fu.kp, b⟩, hl⟩
theorem noCX {P : Program} {w : World} {H : Hp} {s : Shared} {e : Value} {s' : Shared} (h : L2.CX P w [] H s (fun _ _ _ => False) e s') : False := by
  obtain ⟨_, _, _, _, _, _, _, _, _, _, _, z⟩ := h
  exact z.2
/-- the law's own promise: its mirror gives True -/
theorem law_sp {K : PySem.W.Frag} {c : Nat → Addr} {F : Fn} (h : ∀ ns : List Int, ns.length ≤ 63 → ∃ as, F [.d (.ro (ns.map D.int))] = .ok (.d (.bl true)) as) (H : Hp) (a : Addr) (ns : List Int) (hl : ns.length ≤ 63) (hs : SqL K H a (ns.map V.int)) :
    spM ⟨K, c⟩ 1 F [.ref a] H (fun v _ => v = .bl true) fun _ _ _ => False := by
  obtain ⟨as, e⟩ := h ns hl
  have r : Reps ⟨K, c⟩ H (ns.map D.int) (ns.map V.int) := by
    clear hl hs e h as
    induction ns with
    | nil => exact rfl
    | cons n r ih => exact ⟨.int n, _, rfl, rfl, ih⟩
  refine ⟨H, [], [.d (.ro (ns.map D.int))], [], ⟨.ref a, [], [], [], rfl, rfl, ⟨rfl, a, _, rfl, hs, r⟩, rfl, rfl⟩, ⟨Ex.refl H, fun _ z => (nomatch z), List.nodup_nil, fun _ z => nomatch z⟩, rfl, ?_⟩
  rw [e]
  intro P' M' v g H' _ _ o _
  exact o.2
end NS
namespace NS
open PySem L2

/-! ### calls with keywords, with defaults -/
def XKw (c : Nat → Addr) (X : Cx) (W : WX) (kws : List Keyword) (m : MA) : Prop := ∃ ta, PK X kws ta ∧ SA ⟨X.K, c⟩ W ta m
section
variable {c : Nat → Addr} {X : Cx} {W : WX} {e : Expr} {kws : List Keyword} {nm : Option Str} {kpos : Pos}
theorem xk_nil : XKw c X W [] aNil := ⟨_, pk_nil, SA.nil⟩
theorem xk_cons {m : MO} {r : MA} (h : XO c X W e m) (h' : XKw c X W kws r) : XKw c X W (⟨nm, e, kpos⟩ :: kws) (aCons m r) := let ⟨_, p, s⟩ := h; let ⟨_, p', s'⟩ := h'; ⟨_, pk_cons p p', SA.cons s s'⟩
end
theorem OpsOk.len {G : Gx} {P : Hp} {σ : St} : ∀ {os : List Op} {vs : List V} {h : Cells}, OpsOk G P σ os vs h → vs.length = os.length
  | [], _, _, x => by rw [x.1]; rfl
  | _ :: _, _, _, ⟨v, r, h1, h2, a, b, x, y⟩ => by rw [a]; simp [OpsOk.len y]
theorem OpsOk.app {G : Gx} {P : Hp} {σ : St} : ∀ {os qs : List Op} {vs ws : List V} {h g : Cells}, OpsOk G P σ os vs h → OpsOk G P σ qs ws g → OpsOk G P σ (os ++ qs) (vs ++ ws) (h ++ g)
  | [], _, _, _, _, _, x, z => by rw [x.1, x.2]; exact z
  | _ :: _, _, _, _, _, _, ⟨v, r, h1, h2, a, b, x, y⟩, z => by rw [a, b]; exact ⟨v, _, h1, _, rfl, by rw [List.append_assoc], x, OpsOk.app y z⟩
theorem OpsOk.perm2 {G : Gx} {P : Hp} {σ : St} {a b : Op} {v w : V} {h : Cells} (x : OpsOk G P σ [a, b] [v, w] h) : ∃ h', h.Perm h' ∧ OpsOk G P σ [b, a] [w, v] h' := by
  obtain ⟨v', r, h1, h2, e1, e2, o1, w', r', h3, h4, e3, e4, o2, e5, e6⟩ := x
  subst e2 e4 e6 e3 e5
  simp only [List.cons.injEq, and_true] at e1
  obtain ⟨rfl, rfl⟩ := e1
  exact ⟨h3 ++ (h1 ++ []), perm_by fun a => by simp only [List.count_append, List.count_nil]; omega, w, [v], h3, h1 ++ [], rfl, rfl, o2, v, [], h1, [], rfl, rfl, o1, rfl, rfl⟩
/-- how the written values come to the parameters -/
structure Arr (gO : List Op → List Op → List Op) (gV : List V → List V → List V) : Prop where
  ok : ∀ (G : Gx) (P : Hp) (σ : St) (os qs : List Op) (vs ws : List V) (h g : Cells), OpsOk G P σ os vs h → OpsOk G P σ qs ws g → ∃ h', (h ++ g).Perm h' ∧ OpsOk G P σ (gO os qs) (gV vs ws) h'
theorem arr_app : Arr (fun a b => a ++ b) (fun a b => a ++ b) := ⟨fun G P σ os qs vs ws h g x y => ⟨h ++ g, .rfl, x.app y⟩⟩
/-- defaults behind -/
def dflt (ds : List (D × V)) : List Op := ds.map fun p => .tmp (.d p.1)
theorem arr_dfl {gO : List Op → List Op → List Op} {gV : List V → List V → List V} (a : Arr gO gV) (ds : List (D × V)) (hd : ∀ p ∈ ds, ∀ G P, Rep G P p.1 p.2) : Arr (fun x y => gO x y ++ dflt ds) (fun x y => gV x y ++ ds.map (·.2)) := ⟨fun G P σ os qs vs ws h g x y => by
  obtain ⟨h', p, z⟩ := a.ok G P σ os qs vs ws h g x y
  refine ⟨h', p, ?_⟩
  have t : OpsOk G P σ (dflt ds) (ds.map (·.2)) [] := by
    clear p z x y
    induction ds with
    | nil => exact ⟨rfl, rfl⟩
    | cons q r ih => exact ⟨q.2, _, [], [], rfl, rfl, ⟨rfl, hd q List.mem_cons_self G P⟩, ih fun p hp => hd p (List.mem_cons_of_mem _ hp)⟩
  have := z.app t
  rw [List.append_nil] at this
  exact this⟩
/-- two keywords the other way round -/
theorem arr_swap : Arr (fun a b => a ++ (match b with | [x, y] => [y, x] | b => b)) (fun a b => a ++ (match b with | [x, y] => [y, x] | b => b)) := ⟨fun G P σ os qs vs ws h g x y => by
  have hl := y.len
  match qs, ws, hl, y with
  | [a, b], [v, w], _, y =>
    obtain ⟨g', p, z⟩ := y.perm2
    exact ⟨h ++ g', List.Perm.append_left h p, x.app z⟩
  | [], [], _, y => exact ⟨h ++ g, .rfl, x.app y⟩
  | [a], [v], _, y => exact ⟨h ++ g, .rfl, x.app y⟩
  | a :: b :: d :: r, v :: w :: z :: s, _, y => exact ⟨h ++ g, .rfl, x.app y⟩⟩
def mCallK (F : Fn) (gO : List Op → List Op → List Op) (m k : MA) : ME := fun env => (m env).bind fun os e0 => (k e0).bind fun ks e1 => callRes F (gO os ks) e1
def tCallW (n m : Nat) (sp : Sp) (gV : List V → List V → List V) (E : St → L2.XK) (t tk : TA) : TE := fun σ H Q => t σ H fun vs H1 => tk σ H1 fun zs H2 => vs.length = n ∧ zs.length = m ∧ sp (gV vs zs) H2 Q (E σ)
theorem aNil_len : ∀ env os e, aNil env = .ok os e → os.length = 0 := fun env os e q => by cases q; rfl
theorem aCons_len {m : MO} {r : MA} {n : Nat} (h : ∀ env os e, r env = .ok os e → os.length = n) : ∀ env os e, aCons m r env = .ok os e → os.length = n + 1 := fun env os e q => by
  unfold aCons at q
  cases e1 : m env with
  | ok t e' =>
    rw [e1, Rs.bind_ok] at q
    cases e2 : r e' with
    | ok us e3 => rw [e2] at q; cases q; simp [h _ _ _ e2]
    | _ => rw [e2] at q; cases q
  | _ => rw [e1] at q; cases q
theorem SA.callK {G : Gx} {W : WX} {F : Fn} {l n mk : Nat} {ta tk : TA} {m k : MA} {gO : List Op → List Op → List Op} {gV : List V → List V → List V} (ar : Arr gO gV) (hl : ∀ ts, F ts ≠ .bad → ts.length = l) (hn : ∀ env os e, m env = .ok os e → os.length = n) (hk : ∀ env os e, k env = .ok os e → os.length = mk) (h : SA G W ta m) (h' : SA G W tk k) :
    SE G W (tCallW n mk (spM G l F) gV (WE W) ta tk) (mCallK F gO m k) := ⟨fun P M Fr env σ H Q y x q => h.run P M Fr env σ H _ y x (by
  unfold mCallK at q
  cases e1 : m env with
  | bad => rw [e1] at q; exact q.elim
  | exc z e' => rw [e1] at q; exact q
  | ok os env1 =>
    rw [e1, Rs.bind_ok] at q
    intro P1 M1 vs h1 H1 x1 y1 z1 w1
    refine h'.run P1 M1 (h1 ++ Fr) env1 σ H1 _ y1 (w1.perm (perm_by fun a => by simp only [List.count_append]; omega)) ?_
    cases e2 : k env1 with
    | bad => rw [e2] at q; exact q.elim
    | exc z e' => rw [e2] at q; exact (XP.mono q x1).wide
    | ok ks env2 =>
      rw [e2, Rs.bind_ok] at q
      intro P2 M2 ws h2 H2 x2 y2 z2 w2
      obtain ⟨h3, p3, z3⟩ := ar.ok G P2 σ os ks vs ws h1 h2 (z1.mono x2) z2
      refine ⟨by rw [z1.len]; exact hn _ _ _ e1, by rw [z2.len]; exact hk _ _ _ e2, ?_⟩
      refine call_core (M := M2) (Fr := Fr) hl z3 y2 (w2.perm (perm_by fun a => ?_)) (x1.trans x2) ?_
      · have c1 := p3.count_eq a
        simp only [List.count_append] at c1 ⊢
        omega
      · revert q
        generalize callRes F (gO os ks) env2 = r
        intro q
        cases r with
        | bad => exact q
        | ok t e => exact q
        | exc x e => exact fun P' M' cls d H' a b c r => q P' M' cls d σ H' a rfl b c r)⟩
/-- a def's values as a call writes them -/
theorem kbn_of {K : PySem.W.Frag} {x qual : Str} {st : Stmt} {f : Addr} {fd : FuncData} {ps : List Str} (F : Fun K x qual st f fd) (n : Nat) (ks : List Str) {g : {α : Type} → List α → List α → List α}
    (h : ∀ (kV doc pm : Value) (an : Option Addr) (cdv ct : Value) (us ws : List Value), us.length = n → ws.length = ks.length → bindArgs (PySem.W.fnOf x qual (defArgs st) (defBody st) (defScope st) .none kV doc pm an cdv ct) ⟨us, ks.zip ws⟩ = pure (ps.zip (g us ws)))
    (hr : ∀ {vs : List V} {us : List Value} {zs : List V} {ws : List Value}, Vals vs us → Vals zs ws → Vals (g vs zs) (g us ws)) : KBn K fd ps n ks (fun us ws => g us ws) (fun us ws => g us ws) := by
  obtain ⟨oc, od, kV, doc, pm, an, cdv, ct, osl, rfl, lk, hcd⟩ := F.ex
  refine ⟨fun s us ws _ h1 h2 => ?_, hr⟩
  have e := h kV doc pm an cdv ct us ws h1 h2
  exact .of_eq e
section
variable {X : Cx} {W : WX} {k n : Nat} {f : Addr} {fd : FuncData} {ps ks : List Str} {sp : Sp} {x : Str} {p pos : Pos} {e : Expr} {es : List Expr} {kws : List Keyword} {t tk : TA} {g : List Value → List Value → List Value} {gV : List V → List V → List V}
theorem run_fnW {pins : List (Addr × Obj)} {σ : St} {H : Hp} {s : Shared} {Q : VK} {us ws : List Value} {vs zs : List V} (F : FnOk X.prog X.w X.K X.mg X.base (L2.CX X.prog X.w) k f fd ps sp) (hr : Room k X.A) (hb : KBn X.K fd ps n ks g gV) (hx : PassesAt (L2.CX X.prog X.w) X σ (WE W σ))
    (I : Inv X pins σ H s) (r : Vals vs us) (rz : Vals zs ws) (l1 : vs.length = n) (l2 : zs.length = ks.length) (h : sp (gV vs zs) H Q (WE W σ)) : wpAny (model X.prog X.w) X.A (call (.ref f) us (ks.zip ws)) (EP X pins σ Q) X.xe s := by
  have r2 := hb.rel r rz
  refine wpAny_call (codeAny_mono (F.run X.A X.stack s H ⟨us, ks.zip ws⟩ (g us ws) (gV vs zs) Q (WE W σ) hr I.env0 (hb.to s us ws I.kIn (r.length.symm.trans l1) (rz.length.symm.trans l2)) r2 h) fun r s' hq => ?_)
  cases r with
  | error e => exact hx pins H s e s' I hq
  | ok fl =>
    cases fl with
    | ret u => exact I.after hq
    | next => exact False.elim hq
    | brk => exact False.elim hq
    | cont => exact False.elim hq
theorem pe_callW (F : FnOk X.prog X.w X.K X.mg X.base (L2.CX X.prog X.w) k f fd ps sp) (hr : Room k X.A) (hg : Gl X x) (hm : X.mg x = some (.ref f)) (hk : PySem.W.keepIn X.K (.ref f) = true) (hb : KBn X.K fd ps n ks g gV) (hx : ∀ σ, PassesAt (L2.CX X.prog X.w) X σ (WE W σ))
    (ha : PA X (e :: es) t) (hkw : PK X kws tk) (hall : (backToKw pos (keywordEach kws X.env)).all (·.1.isSome) = true) (hks : (backToKw pos (keywordEach kws X.env)).filterMap (·.1) = ks)
    (hdb : (x == ("__debug__" : Str)) = false) (he : starEach (e :: es) X.env = (false, eval e X.env) :: starEach es X.env)
    (hpl : ((backTo pos (starEach (e :: es) X.env)).any (·.1) || (backToKw pos (keywordEach kws X.env)).any (·.1.isNone)) = false) :
    PE X (.Call (.Name x p) (e :: es) kws pos) (tCallW n ks.length sp gV (WE W) t tk) := by
  refine ⟨fun pins s σ H Q I h => ?_⟩
  refine wpAny_Call_Name_kw (ld_glob I hg hm ?_ hdb)
  refine PySem.W.callWith_KW (h₀ := X.base) I.ok.mod.kin hk hall (thn (ha.run pos pins s σ H _ I h) fun us s1 ⟨vs, H1, I1, r, q⟩ => ?_) hpl he
  refine thn (hkw.run pos pins s1 σ H1 _ I1 q) fun ws s2 ⟨zs, H2, I2, rz, l1, l2, q2⟩ => ⟨I2.kIn, ?_⟩
  rw [hks]
  exact run_fnW F hr hb (hx σ) I2 r rz l1 l2 q2
theorem pe_callW0 (F : FnOk X.prog X.w X.K X.mg X.base (L2.CX X.prog X.w) k f fd ps sp) (hr : Room k X.A) (hg : Gl X x) (hm : X.mg x = some (.ref f)) (hk : PySem.W.keepIn X.K (.ref f) = true) (hb : KBn X.K fd ps n ks g gV) (hx : ∀ σ, PassesAt (L2.CX X.prog X.w) X σ (WE W σ))
    (hkw : PK X kws tk) (hall : (backToKw pos (keywordEach kws X.env)).all (·.1.isSome) = true) (hks : (backToKw pos (keywordEach kws X.env)).filterMap (·.1) = ks)
    (hdb : (x == ("__debug__" : Str)) = false) (hpl : ((backTo pos (starEach [] X.env)).any (·.1) || (backToKw pos (keywordEach kws X.env)).any (·.1.isNone)) = false) :
    PE X (.Call (.Name x p) [] kws pos) (tCallW n ks.length sp gV (WE W) tNil tk) := by
  refine ⟨fun pins s σ H Q I h => ?_⟩
  refine wpAny_Call_Name_kw (ld_glob I hg hm ?_ hdb)
  refine PySem.W.callWith_KW0 (h₀ := X.base) I.ok.mod.kin hk hall ?_ hpl
  refine thn (hkw.run pos pins s σ H _ I h) fun ws s2 ⟨zs, H2, I2, rz, l1, l2, q2⟩ => ⟨I2.kIn, ?_⟩
  rw [hks]
  exact run_fnW (us := []) F hr hb (hx σ) I2 .nil rz l1 l2 q2
end
/-- a def that may be called with n values and these keywords -/
structure CalK (c : Nat → Addr) (P : Program) (w : World) (K : PySem.W.Frag) (mg : Str → Option Value) (base : Heap) (k : Nat) (x : Str) (n : Nat) (ks : List Str) (gO : List Op → List Op → List Op) (F : Fn) : Prop where
  ex : ∃ (f : Addr) (fd : FuncData) (ps : List Str) (l : Nat) (g : List Value → List Value → List Value) (gV : List V → List V → List V), FnOk P w K mg base (L2.CX P w) k f fd ps (spM ⟨K, c⟩ l F) ∧ mg x = some (.ref f) ∧ PySem.W.keepIn K (.ref f) = true ∧ KBn K fd ps n ks g gV ∧ Arr gO gV ∧ ∀ ts, F ts ≠ .bad → ts.length = l
section
variable {c : Nat → Addr} {X : Cx} {W : WX} {p pos : Pos} {e : Expr} {es : List Expr} {kws : List Keyword} {m mk : MA} {x : Str} {k j n : Nat} {ks : List Str} {gO : List Op → List Op → List Op} {F : Fn}
theorem xe_callK (t : Ct X W k) (cl : CalK c X.prog X.w X.K X.mg X.base j x n ks gO F) (hj : j ≤ k) (ha : XA c X W (e :: es) m) (hk : XKw c X W kws mk) (hn : ∀ env os e, m env = .ok os e → os.length = n) (hl : ∀ env os e, mk env = .ok os e → os.length = ks.length) (hg : Gl X x := by rfl) (hdb : (x == ("__debug__" : Str)) = false := by decide)
    (hall : (backToKw pos (keywordEach kws X.env)).all (·.1.isSome) = true := by rfl) (hks : (backToKw pos (keywordEach kws X.env)).filterMap (·.1) = ks := by rfl)
    (he : starEach (e :: es) X.env = (false, eval e X.env) :: starEach es X.env := by rfl) (hpl : ((backTo pos (starEach (e :: es) X.env)).any (·.1) || (backToKw pos (keywordEach kws X.env)).any (·.1.isNone)) = false := by rfl) :
    XE c X W (.Call (.Name x p) (e :: es) kws pos) (mCallK F gO m mk) := by
  obtain ⟨f, fd, ps, l, g, gV, Fo, hm, kp, b, ar, hF⟩ := cl.ex
  obtain ⟨ta, p1, s1⟩ := ha
  obtain ⟨tk, p2, s2⟩ := hk
  exact ⟨_, pe_callW Fo (t.room.mono hj) hg hm kp b (fun σ => passAt t.tk σ) p1 p2 hall hks hdb he hpl, SA.callK ar hF hn hl s1 s2⟩
theorem xe_callK0 (t : Ct X W k) (cl : CalK c X.prog X.w X.K X.mg X.base j x 0 ks gO F) (hj : j ≤ k) (hk : XKw c X W kws mk) (hl : ∀ env os e, mk env = .ok os e → os.length = ks.length) (hg : Gl X x := by rfl) (hdb : (x == ("__debug__" : Str)) = false := by decide)
    (hall : (backToKw pos (keywordEach kws X.env)).all (·.1.isSome) = true := by rfl) (hks : (backToKw pos (keywordEach kws X.env)).filterMap (·.1) = ks := by rfl)
    (hpl : ((backTo pos (starEach [] X.env)).any (·.1) || (backToKw pos (keywordEach kws X.env)).any (·.1.isNone)) = false := by rfl) :
    XE c X W (.Call (.Name x p) [] kws pos) (mCallK F gO aNil mk) := by
  obtain ⟨f, fd, ps, l, g, gV, Fo, hm, kp, b, ar, hF⟩ := cl.ex
  obtain ⟨tk, p2, s2⟩ := hk
  exact ⟨_, pe_callW0 Fo (t.room.mono hj) hg hm kp b (fun σ => passAt t.tk σ) p2 hall hks hdb hpl, SA.callK ar hF aNil_len hl SA.nil s2⟩
end
theorem calk_app {P : Program} {w : World} {K : PySem.W.Frag} {mg : Str → Option Value} {base : Heap} {c : Nat → Addr} {k l n : Nat} {x qual : Str} {st : Stmt} {f : Addr} {fd : FuncData} {ps ks : List Str} {F : Fn} (Fu : Fun K x qual st f fd) (o : FnOk P w K mg base (L2.CX P w) k f fd ps (spM ⟨K, c⟩ l F)) (hm : mg x = some (.ref f)) (hl : ∀ ts, F ts ≠ .bad → ts.length = l)
    (h : ∀ (kV doc pm : Value) (an : Option Addr) (cdv ct : Value) (us ws : List Value), us.length = n → ws.length = ks.length → bindArgs (PySem.W.fnOf x qual (defArgs st) (defBody st) (defScope st) .none kV doc pm an cdv ct) ⟨us, ks.zip ws⟩ = pure (ps.zip (us ++ ws))) :
    CalK c P w K mg base k x n ks (fun a b => a ++ b) F :=
  ⟨⟨f, fd, ps, l, _, _, o, hm, Fu.kp, kbn_of (g := fun a b => a ++ b) Fu n ks h (fun a b => a.append b), arr_app, hl⟩⟩
end NS
namespace NS
open PySem L2
/-! ### the mirrors at an environment, step by step -/
theorem Rs.of_ite {α : Type} {c : Prop} [Decidable c] {a b : Option α} {e : Env} : Rs.of (if c then a else b) e = if c then Rs.of a e else Rs.of b e := by split <;> rfl
section
variable {α : Type} {env : Env}
def ap1 (f : T → Option T) (o : Option T) (e : Env) : Rs T := Rs.of (o.bind fun s => f s) e
def ap2 (f : T → T → Option T) (o o' : Option T) (e : Env) : Rs T := Rs.of (o.bind fun s => o'.bind fun t => f s t) e
def apL (f : List T → Option T) (o : Option (List T)) (e : Env) : Rs T := Rs.of (o.bind f) e
theorem n_ap1 {f : T → Option T} {s : T} {e : Env} : ap1 f (some s) e = Rs.of (f s) e := Eq.mpr rfl rfl
theorem n_ap2 {f : T → T → Option T} {s t : T} {e : Env} : ap2 f (some s) (some t) e = Rs.of (f s t) e := Eq.mpr rfl rfl
theorem n_apL {f : List T → Option T} {s : List T} {e : Env} : apL f (some s) e = Rs.of (f s) e := Eq.mpr rfl rfl
theorem n_f1 {f : T → Option T} {s : T} : f1 f [s] = f s := Eq.mpr rfl rfl
theorem n_of {α : Type} {s : α} {e : Env} : Rs.of (some s) e = .ok s e := Eq.mpr rfl rfl
def cr2 (r : RF) (os : List Op) (e2 : Env) : Rs T := match r with
  | .ok t as => .ok t (putOps os as e2)
  | .exc x as => .exc x (putOps os as e2)
  | .bad => .bad
def crT (F : Fn) (o : Option (List T × Env)) (os : List Op) : Rs T := match o with
  | none => .bad
  | some (ts, e2) => cr2 (F ts) os e2
theorem p_cres {F : Fn} {os : List Op} {e : Env} : callRes F os e = crT F (takeOps os e) os := by
  unfold callRes crT cr2
  cases takeOps os e with
  | none => rfl
  | some p => rfl
theorem n_crT {F : Fn} {ts : List T} {e : Env} {os : List Op} : crT F (some (ts, e)) os = cr2 (F ts) os e := Eq.mpr rfl rfl
theorem n_cr2 {t : T} {as : Env} {os : List Op} {e : Env} : cr2 (.ok t as) os e = .ok t (putOps os as e) := Eq.mpr rfl rfl
theorem n_bind {α β : Type} (a : α) (e : Env) (f : α → Env → Rs β) : (Rs.ok a e).bind f = f a e := Eq.mpr rfl rfl
theorem p_seq {m n : MS} : mSeq m n env = (m env).bind fun f e => match f with
  | .nx => n e
  | f => .ok f e := Eq.mpr rfl rfl
theorem p_asg {m : ME} {g : MG} : mAsg m g env = (m env).bind fun t e => (g t e).bind fun _ e2 => .ok .nx e2 := Eq.mpr rfl rfl
theorem p_drop {m : ME} : mDrop m env = (m env).bind fun _ e => .ok .nx e := Eq.mpr rfl rfl
theorem p_ret {m : ME} : mRet m env = (m env).bind fun t e => .ok (.rt t) e := Eq.mpr rfl rfl
theorem p_pass : mPass env = .ok .nx env := Eq.mpr rfl rfl
theorem p_break : mBreak env = .ok .bk env := Eq.mpr rfl rfl
theorem p_cont : mCont env = .ok .ct env := Eq.mpr rfl rfl
theorem p_ifs {t : MB} {m n : MS} : mIfS t m n env = (t env).bind fun b e => if b = true then m e else n e := Eq.mpr rfl rfl
theorem p_if {t : MB} {m n : Env → Rs α} : mIf t m n env = (t env).bind fun b e => if b = true then m e else n e := Eq.mpr rfl rfl
theorem p_de {m : MD} : mDE m env = (m env).bind fun d e => .ok (.d d) e := by unfold mDE; cases m env <;> rfl
theorem p_ed {m : ME} : mED m env = (m env).bind fun d e => .ok d.toD e := by unfold mED; cases m env <;> rfl
theorem p_eo {m : ME} : mEO m env = (m env).bind fun d e => .ok (.tmp d) e := by unfold mEO; cases m env <;> rfl
theorem p_do {m : MD} : mDO m env = (m env).bind fun d e => .ok (.tmp (.d d)) e := by unfold mDO; cases m env <;> rfl
theorem p_use {i : Nat} : mUse i env = match (env[i]?).join with
  | none => .bad
  | some (.d x) => .ok x env
  | some t => .ok t.toD (env.set i (some (.d t.toD))) := Eq.mpr rfl rfl
theorem p_move {i : Nat} : mMove i env = match (env[i]?).join with
  | none => .bad
  | some (.d x) => .ok (.d x) env
  | some t => .ok t (env.set i none) := Eq.mpr rfl rfl
theorem p_pk {i : Nat} : mPk i env = match (env[i]?).join with
  | none => .bad
  | some _ => .ok (.pk i) env := Eq.mpr rfl rfl
theorem p_c {d : D} : mC d env = .ok d env := Eq.mpr rfl rfl
theorem p_op2 {f : T → T → Option T} {ma mb : MO} : mOp2 f ma mb env = (ma env).bind fun o1 e1 => (mb e1).bind fun o2 e2 => ap2 f (o1.at e2) (o2.at e2) e2 := Eq.mpr rfl rfl
theorem p_op1 {f : T → Option T} {ma : MO} : mOp1 f ma env = (ma env).bind fun o1 e1 => ap1 f (o1.at e1) e1 := Eq.mpr rfl rfl
theorem p_b {m : ME} : mB m env = (m env).bind fun t e => Rs.of t.bl? e := Eq.mpr rfl rfl
theorem p_andT {m n : MB} : mAndT m n env = (m env).bind fun b e => if b = true then n e else .ok false e := Eq.mpr rfl rfl
theorem p_orT {m n : MB} : mOrT m n env = (m env).bind fun b e => if b = true then .ok true e else n e := Eq.mpr rfl rfl
theorem p_notT {m : MB} : mNotT m env = (m env).bind fun b e => .ok (!b) e := by unfold mNotT; cases m env <;> rfl
theorem p_tru {m : MO} : mTru m env = (m env).bind fun o e => Rs.of ((o.at e).bind bTru) e := Eq.mpr rfl rfl
theorem p_andV {m n : MD} : mAndV m n env = (m env).bind fun d e => match d with
  | .bl b => if b = true then n e else .ok (.bl b) e
  | _ => .bad := by
  unfold mAndV
  cases m env with
  | ok d e => cases d <;> first | rfl | (rename_i b; cases b <;> rfl)
  | exc x e => rfl
  | bad => rfl
theorem p_orV {m n : MD} : mOrV m n env = (m env).bind fun d e => match d with
  | .bl b => if b = true then .ok (.bl b) e else n e
  | _ => .bad := by
  unfold mOrV
  cases m env with
  | ok d e => cases d <;> first | rfl | (rename_i b; cases b <;> rfl)
  | exc x e => rfl
  | bad => rfl
theorem p_notV {m : MD} : mNotV m env = (m env).bind fun d e => match d with
  | .bl b => .ok (.bl (!b)) e
  | _ => .bad := by
  unfold mNotV
  cases m env with
  | ok d e => cases d <;> rfl
  | exc x e => rfl
  | bad => rfl
theorem p_aug {i : Nat} {g : Int → Int → Int} {m : ME} : mAug i g m env = match (env[i]?).join with
  | some (.d (.int a)) => (m env).bind fun t e => match t with
    | .d (.int b) => if i < e.length then .ok .nx (e.set i (some (.d (.int (g a b))))) else .bad
    | _ => .bad
  | _ => .bad := Eq.mpr rfl rfl
theorem p_par {ms : MTs} {gs : MGs} : mPar ms gs env = (ms env).bind fun ts e => (gs ts e).bind fun _ e2 => .ok .nx e2 := Eq.mpr rfl rfl
theorem p_lst {m : MDs} : mLst m env = (m env).bind fun ds e => if ds.length ≤ sizeLine then .ok (.l ds) e else .bad := Eq.mpr rfl rfl
theorem p_tup {m : MDs} : mTup m env = (m env).bind fun ds e => if ds.length ≤ sizeLine then .ok (.tup ds) e else .bad := Eq.mpr rfl rfl
theorem p_upd {i : Nat} {f : List D → List D → Option (List D × D)} {ms : MDs} : mUpd i f ms env = if isOwnL env i = true then (ms env).bind fun ds e => match (e[i]?).join with
    | some (.l xs) => match f xs ds with
      | some (xs', d) => .ok (.d d) (e.set i (some (.l xs')))
      | none => .bad
    | _ => .bad
  else .bad := Eq.mpr rfl rfl
theorem p_isN {ma : MO} : mIsN ma env = mOp1 bIsN ma env := Eq.mpr rfl rfl
theorem p_notN {ma : MO} : mNotN ma env = mOp1 bNotN ma env := Eq.mpr rfl rfl
theorem p_isi {cs : List Nat} {bs : List Tn} {ma : MO} : mIsi cs bs ma env = mOp1 (bIsi cs bs) ma env := Eq.mpr rfl rfl
theorem p_sl {m : MO} {lo hi : MI} : mSl m lo hi env = (m env).bind fun o e1 => (lo e1).bind fun l e2 => (hi e2).bind fun h e3 => Rs.of ((o.at e3).bind fun s => bSl s l h) e3 := Eq.mpr rfl rfl
theorem p_inone : iNone env = .ok none env := Eq.mpr rfl rfl
theorem p_isome {m : MD} : iSome m env = (m env).bind fun d e => match d with
  | .int i => .ok (some i) e
  | _ => .bad := by
  unfold iSome
  cases m env with
  | ok d e => cases d <;> rfl
  | exc x e => rfl
  | bad => rfl
theorem p_cb {f : List T → Option T} {m : MA} : mCB f m env = (m env).bind fun os e => apL f (atAll e os) e := Eq.mpr rfl rfl
theorem p_call {F : Fn} {m : MA} : mCall F m env = (m env).bind fun os e1 => callRes F os e1 := Eq.mpr rfl rfl
theorem p_callk {F : Fn} {g : List Op → List Op → List Op} {m k : MA} : mCallK F g m k env = (m env).bind fun os e0 => (k e0).bind fun ks e1 => callRes F (g os ks) e1 := Eq.mpr rfl rfl
theorem p_anil : aNil env = .ok [] env := Eq.mpr rfl rfl
theorem p_acons {m : MO} {r : MA} : aCons m r env = (m env).bind fun o e => (r e).bind fun os e2 => .ok (o :: os) e2 := Eq.mpr rfl rfl
theorem p_dnil : dNil env = .ok [] env := Eq.mpr rfl rfl
theorem p_dcons {m : MD} {r : MDs} : dCons m r env = (m env).bind fun o e => (r e).bind fun os e2 => .ok (o :: os) e2 := Eq.mpr rfl rfl
theorem p_enil : eNil env = .ok [] env := Eq.mpr rfl rfl
theorem p_econs {m : ME} {r : MTs} : eCons m r env = (m env).bind fun t e => (r e).bind fun ts e2 => .ok (t :: ts) e2 := Eq.mpr rfl rfl
theorem p_yes : mYes env = .ok true env := Eq.mpr rfl rfl
theorem p_gn {i : Nat} {t : T} : gN i t env = if i < env.length then .ok () (env.set i (some t)) else .bad := Eq.mpr rfl rfl
theorem p_gnil : gNil' [] env = .ok () env := Eq.mpr rfl rfl
theorem p_gcons {g : MG} {r : MGs} {t : T} {us : List T} : gCons' g r (t :: us) env = (g t env).bind fun _ e => r us e := Eq.mpr rfl rfl
theorem p_gtup {n : Nat} {r : MGs} {ds : List D} : gTup' n r (.d (.tup ds)) env = if ds.length = n then r (ds.map T.d) env else .bad := Eq.mpr rfl rfl
theorem p_gsub {i : Nat} {mi : MD} {t : T} : gSubL i mi t env = if isOwnL env i = true then (mi env).bind fun d e => match (e[i]?).join, d with
    | some (.l xs), .int k => match ixN xs.length k with
      | some j => .ok () (e.set i (some (.l (xs.set j t.toD))))
      | none => .bad
    | _, _ => .bad
  else .bad := Eq.mpr rfl rfl
theorem p_for {A : AS} {f : List T → Option (List D)} {ma : MA} {g : MG} {b : MS} : mFor A f ma g b env = (ma env).bind fun os e1 => match takeOps os e1 with
  | none => .bad
  | some (ts, e2) => match f ts with
    | none => .bad
    | some ds => if opsFree A os = true then (forGo g b ds e2).env fun e3 => putOps os (ts.map some) e3 else .bad := Eq.mpr rfl rfl
theorem p_comp {vs : List Nat} {f : List T → Option (List D)} {ma : MA} {g : MG} {t : MB} {m : MD} : mComp vs f ma g t m env = (ma env).bind fun os e1 => match takeOps os e1 with
  | none => .bad
  | some (ts, e2) => match f ts with
    | none => .bad
    | some ds => match compGo vs g t m ds (wipeE e2 vs) [] with
      | .ok acc e3 => .ok (.l acc) (putOps os (ts.map some) (unwipeE e2 e3 vs))
      | _ => .bad := Eq.mpr rfl rfl
theorem p_fn {n l : Nat} {A : AS} {m : MS} {ts : List T} (h : ts.length = n) : mFn n l A m ts = match m (ts.map some ++ List.replicate (l - n) none) with
    | .ok (.rt t) e => .ok t (outs A ts 0 e)
    | .ok .nx e => .ok (.d .non) (outs A ts 0 e)
    | .exc x e => .exc x (outs A ts 0 e)
    | _ => .bad := by unfold mFn; rw [if_pos h] <;> rfl
end
theorem fn_ret {n l : Nat} {A : AS} {m : MS} {ts : List T} {t : T} {e : Env} (h : ts.length = n) (h2 : m (ts.map some ++ List.replicate (l - n) none) = .ok (.rt t) e) : mFn n l A m ts = .ok t (outs A ts 0 e) := by rw [p_fn h, h2]
theorem seq_nx {m n : MS} {env e : Env} (h : m env = .ok .nx e) : mSeq m n env = n e := by rw [p_seq, h]; rfl
theorem seq_rt {m n : MS} {env e : Env} {t : T} (h : m env = .ok (.rt t) e) : mSeq m n env = .ok (.rt t) e := by rw [p_seq, h]; rfl
abbrev mNx : MS := fun e => .ok .nx e
theorem seq_nx2 {a b c : MS} {env e : Env} (h : mSeq a (mSeq b mNx) env = .ok .nx e) : mSeq a (mSeq b c) env = c e := by
  rw [p_seq] at h ⊢
  cases e1 : a env with
  | bad => rw [e1] at h; cases h
  | exc x e' => rw [e1] at h; cases h
  | ok f e' =>
    rw [e1] at h
    simp only [Rs.bind_ok] at h ⊢
    cases f with
    | nx =>
      dsimp only at h ⊢
      rw [p_seq] at h ⊢
      cases e2 : b e' with
      | bad => rw [e2] at h; cases h
      | exc x e' => rw [e2] at h; cases h
      | ok f e3 =>
        rw [e2] at h
        simp only [Rs.bind_ok] at h ⊢
        cases f <;> simp_all
    | _ => simp_all
theorem atI_nat {α : Type} (xs : List α) (i : Nat) : atI xs (i : Int) = xs[i]? := by
  unfold atI ixN
  by_cases h : i < xs.length
  · simp [h]
  · simp [h]
theorem atI_lit {α : Type} (xs : List α) (i : Nat) : atI xs (no_index (@OfNat.ofNat Int i _)) = xs[i]? := atI_nat xs i
theorem atI_pos {α : Type} {xs : List α} {i : Int} (h : 0 ≤ i) : atI xs i = xs[i.toNat]? := by
  obtain ⟨n, rfl⟩ := Int.eq_ofNat_of_zero_le h
  exact atI_nat xs n
theorem ixN_nat (n i : Nat) : ixN n (i : Int) = if i < n then some i else none := by
  unfold ixN
  by_cases h : i < n
  · simp [h]
  · simp [h]
theorem ixN_lit (n i : Nat) : ixN n (no_index (@OfNat.ofNat Int i _)) = if i < n then some i else none := ixN_nat n i
@[simp] theorem bNe_ii (i j : Int) : bNe (.d (.int i)) (.d (.int j)) = some (.d (.bl (!decide (i = j)))) := rfl
theorem mulW_small {i j : Int} (h1 : -(2 ^ 64) < i ∧ i < 2 ^ 64) (h2 : -(2 ^ 64) < j ∧ j < 2 ^ 64) : CMulW i j := L2.wide_mul (a := 64) (b := 64) (by omega) (by omega) (by decide) (by decide) (by decide)
theorem bMul_small {i j : Int} (h1 : -(2 ^ 64) < i ∧ i < 2 ^ 64) (h2 : -(2 ^ 64) < j ∧ j < 2 ^ 64) : bMul (.d (.int i)) (.d (.int j)) = some (.d (.int (i * j))) := by rw [bMul_ii, if_pos (mulW_small h1 h2)]
theorem bMod_pos {i j : Int} (h : 0 < j) : bMod (.d (.int i)) (.d (.int j)) = some (.d (.int (i % j))) := by rw [bMod_ii, if_pos (by omega), Int.fmod_eq_emod_of_nonneg _ (by omega)]
theorem divA_small {i j : Int} (h : j ≠ 0) (h1 : -(2 ^ 64) < j ∧ j < 2 ^ 64) : CDivA i j := ⟨h, by
  by_cases h0 : j.natAbs = 0
  · rw [h0]; decide
  · rw [Nat.log2_lt h0]
    exact Nat.lt_of_lt_of_le (show j.natAbs < 2 ^ 64 by omega) (Nat.pow_le_pow_right (by decide) (by decide))⟩
theorem bFdiv_pos {i j : Int} (h : 0 < j) (h1 : j < 2 ^ 64) : bFdiv (.d (.int i)) (.d (.int j)) = some (.d (.int (i / j))) := by rw [bFdiv_ii, if_pos (divA_small (by omega) ⟨by omega, h1⟩), Int.fdiv_eq_ediv_of_nonneg _ (by omega)]
theorem bPow_small {i j : Int} (h1 : -(2 ^ 64) < i ∧ i < 2 ^ 64) (h2 : 0 ≤ j ∧ j ≤ 1000000) : bPow (.d (.int i)) (.d (.int j)) = some (.d (.int (i ^ j.toNat))) := by rw [bPow_ii, if_pos ⟨h2.1, h2.2, by omega⟩]
theorem bSl_l (xs : List D) (lo hi : Option Int) : bSl (.l xs) lo hi = some (.l (cutD xs lo hi)) := rfl
theorem bSl_d (xs : List D) (lo hi : Option Int) : bSl (.d (.lst xs)) lo hi = some (.l (cutD xs lo hi)) := rfl
theorem bSl_ro (xs : List D) (lo hi : Option Int) : bSl (.d (.ro xs)) lo hi = some (.l (cutD xs lo hi)) := rfl
theorem isi_l (xs : List D) (cs : List Nat) (bs : List Tn) : bIsi cs bs (.l xs) = some (.d (.bl (Tn.any .lst bs))) := rfl
theorem isi_d (xs : List D) (cs : List Nat) (bs : List Tn) : bIsi cs bs (.d (.lst xs)) = some (.d (.bl (Tn.any .lst bs))) := rfl
theorem isi_t (xs : List D) (cs : List Nat) (bs : List Tn) : bIsi cs bs (.d (.tup xs)) = some (.d (.bl (Tn.any .tup bs))) := rfl
theorem isi_i (i : Int) (cs : List Nat) (bs : List Tn) : bIsi cs bs (.d (.int i)) = some (.d (.bl (Tn.any .int bs))) := rfl
theorem isi_b (i : Bool) (cs : List Nat) (bs : List Tn) : bIsi cs bs (.d (.bl i)) = some (.d (.bl (Tn.any .bl bs))) := rfl
theorem isi_s (i : Str) (cs : List Nat) (bs : List Tn) : bIsi cs bs (.d (.str i)) = some (.d (.bl (Tn.any .str bs))) := rfl
theorem isi_n (cs : List Nat) (bs : List Tn) : bIsi cs bs (.d .non) = some (.d (.bl (Tn.any .non bs))) := rfl
theorem bNe_bb (i j : Bool) : bNe (.d (.bl i)) (.d (.bl j)) = some (.d (.bl (!decide (i = j)))) := rfl
theorem bNe_ss (i j : Str) : bNe (.d (.str i)) (.d (.str j)) = some (.d (.bl (!decide (i = j)))) := rfl
theorem fZip_ll (a b : List D) : fZip [.l a, .l b] = some (zipD a b) := rfl
theorem fZip_ld (a b : List D) : fZip [.l a, .d (.lst b)] = some (zipD a b) := rfl
theorem fZip_dl (a b : List D) : fZip [.d (.lst a), .l b] = some (zipD a b) := rfl
theorem fZip_dd (a b : List D) : fZip [.d (.lst a), .d (.lst b)] = some (zipD a b) := rfl
theorem fZip_tt (a b : List D) : fZip [.d (.tup a), .d (.tup b)] = some (zipD a b) := rfl
theorem fEnum_l (a : List D) : fEnum [.l a] = some (List.zipWith (fun x y => D.tup [x, y]) (rangeD 0 a.length) a) := rfl
theorem fEnum_d (a : List D) : fEnum [.d (.lst a)] = some (List.zipWith (fun x y => D.tup [x, y]) (rangeD 0 a.length) a) := rfl
theorem bIsN_of (t : T) : bIsN t = some (.d (.bl t.toD.isNon)) := rfl
theorem bNotN_of (t : T) : bNotN t = some (.d (.bl (!t.toD.isNon))) := rfl
theorem isNon_i (i : Int) : (D.int i).isNon = false := rfl
theorem isNon_b (i : Bool) : (D.bl i).isNon = false := rfl
theorem isNon_s (i : Str) : (D.str i).isNon = false := rfl
theorem isNon_l (i : List D) : (D.lst i).isNon = false := rfl
theorem isNon_t (i : List D) : (D.tup i).isNon = false := rfl
theorem isNon_n : D.non.isNon = true := rfl
theorem zip_same {xs : List D} {d : D} (h : d ∈ zipD xs xs) : ∃ x ∈ xs, d = .tup [x, x] := by
  unfold zipD at h
  induction xs with
  | nil => simp at h
  | cons a r ih =>
    simp only [List.zipWith_cons_cons, List.mem_cons] at h
    rcases h with h | h
    · exact ⟨a, List.mem_cons_self, h⟩
    · obtain ⟨x, h1, h2⟩ := ih h
      exact ⟨x, List.mem_cons_of_mem _ h1, h2⟩
theorem bAll_true (ds : List D) : bAll (.l (ds.filterMap fun _ => some (D.bl true))) = some (.d (.bl true)) := by
  have : ds.filterMap (fun _ => some (D.bl true)) = (ds.map fun _ => true).map D.bl := by induction ds <;> simp_all
  rw [this]
  show (bls? _).bind _ = _
  rw [bls?_map]
  show some (T.d (.bl _)) = _
  congr 3
  simp
/-- a thing of plain data: by itself, or a list of one's own -/
inductive IsT : T → D → Prop where
  | d (x : D) : IsT (.d x) x
  | l (xs : List D) : IsT (.l xs) (.lst xs)
theorem sizeLine_val : sizeLine = 16777216 := sizeLine_eq
/-- one item of a comprehension, of a loop -/
def stepC (vs : List Nat) (g : MG) (t : MB) (m : MD) (d : D) (e : Env) : Rs (Option D) := (g (.d d) e).bind fun _ e1 => (t e1).bind fun c e2 => if c = true then (m e2).bind fun x e3 => .ok (some x) (wipeE e3 vs) else .ok none (wipeE e2 vs)
def stepF (g : MG) (b : MS) (d : D) (e : Env) : Rs Fl := (g (.d d) e).bind fun _ e1 => b e1
theorem p_stepC {vs : List Nat} {g : MG} {t : MB} {m : MD} {d : D} {e : Env} : stepC vs g t m d e = (g (.d d) e).bind fun _ e1 => (t e1).bind fun c e2 => if c = true then (m e2).bind fun x e3 => .ok (some x) (wipeE e3 vs) else .ok none (wipeE e2 vs) := Eq.mpr rfl rfl
theorem p_stepF {g : MG} {b : MS} {d : D} {e : Env} : stepF g b d e = (g (.d d) e).bind fun _ e1 => b e1 := Eq.mpr rfl rfl
theorem comp_step {vs : List Nat} {g : MG} {t : MB} {m : MD} {d : D} {r acc : List D} {e e' : Env} {o : Option D} (h : stepC vs g t m d e = .ok o e') (hl : acc.length < sizeLine) : compGo vs g t m (d :: r) e acc = compGo vs g t m r e' (acc ++ o.toList) := by
  unfold stepC at h
  rw [compGo.eq_def]
  dsimp only
  cases e1 : g (.d d) e with
  | exc x y => rw [e1] at h; cases h
  | bad => rw [e1] at h; cases h
  | ok u e2 =>
    rw [e1, Rs.bind_ok] at h
    dsimp only
    cases e3 : t e2 with
    | exc x y => rw [e3] at h; cases h
    | bad => rw [e3] at h; cases h
    | ok c e4 =>
      rw [e3, Rs.bind_ok] at h
      cases c with
      | false => simp at h; obtain ⟨rfl, rfl⟩ := h; simp
      | true =>
        simp only [if_true] at h
        dsimp only
        cases e5 : m e4 with
        | exc x y => rw [e5] at h; cases h
        | bad => rw [e5] at h; cases h
        | ok x e6 =>
          rw [e5, Rs.bind_ok] at h
          simp at h
          obtain ⟨rfl, rfl⟩ := h
          dsimp only
          rw [if_pos hl]; rfl
/-- a comprehension that leaves the slots as they are -/
theorem comp_map {vs : List Nat} {g : MG} {t : MB} {m : MD} {e : Env} (q : D → Option D) : ∀ (ds acc : List D), (∀ d ∈ ds, stepC vs g t m d e = .ok (q d) e) → acc.length + ds.length ≤ sizeLine → compGo vs g t m ds e acc = .ok (acc ++ ds.filterMap q) e
  | [], acc, _, _ => by simp [compGo]
  | d :: r, acc, h, hl => by
    simp only [List.length_cons] at hl
    rw [comp_step (h d List.mem_cons_self) (by omega), comp_map q r _ (fun d hd => h d (List.mem_cons_of_mem _ hd)) (by cases q d <;> simp <;> omega), List.append_assoc]
    congr 2
    cases e1 : q d <;> simp [e1]
theorem comp_mapW {α : Type} {vs : List Nat} {g : MG} {t : MB} {m : MD} {e : Env} (w : α → D) (f : α → Option D) : ∀ (ds : List α) (acc : List D), (∀ d ∈ ds, stepC vs g t m (w d) e = .ok (f d) e) → acc.length + ds.length ≤ sizeLine → compGo vs g t m (ds.map w) e acc = .ok (acc ++ ds.filterMap f) e
  | [], acc, _, _ => by simp [compGo]
  | d :: r, acc, h, hl => by
    simp only [List.length_cons] at hl
    rw [List.map_cons, comp_step (h d List.mem_cons_self) (by omega), comp_mapW w f r _ (fun d hd => h d (List.mem_cons_of_mem _ hd)) (by cases f d <;> simp <;> omega), List.append_assoc]
    congr 2
    cases e1 : f d <;> simp [e1]
theorem filterMap_all {α β : Type} (f : α → β) (xs : List α) : xs.filterMap (fun x => some (f x)) = xs.map f := by induction xs <;> simp_all
theorem comp_inv {vs : List Nat} {g : MG} {t : MB} {m : MD} (I : Nat → Env → List D → Prop) : ∀ (ds : List D) (i : Nat) (env : Env) (acc : List D), I i env acc →
    (∀ j d env acc, ds[j]? = some d → I (i + j) env acc → acc.length < sizeLine ∧ ∃ e' o, stepC vs g t m d env = .ok o e' ∧ I (i + j + 1) e' (acc ++ o.toList)) →
    ∃ env' acc', compGo vs g t m ds env acc = .ok acc' env' ∧ I (i + ds.length) env' acc'
  | [], i, env, acc, h, _ => ⟨env, acc, rfl, h⟩
  | d :: r, i, env, acc, h, s => by
    obtain ⟨hl, e1, o, h1, h2⟩ := s 0 d env acc rfl h
    obtain ⟨env', acc', h6, h7⟩ := comp_inv (vs := vs) (g := g) (t := t) (m := m) I r (i + 1) _ _ h2 fun j y env acc hx hI => by
      have := s (j + 1) y env acc hx (by rw [show i + (j + 1) = i + 1 + j by omega]; exact hI)
      rw [show i + (j + 1) = i + 1 + j by omega] at this
      exact this
    exact ⟨env', acc', (comp_step h1 hl).trans h6, by rw [List.length_cons, show i + (r.length + 1) = i + 1 + r.length by omega]; exact h7⟩
theorem for_step {g : MG} {b : MS} {d : D} {r : List D} {e e' : Env} (h : stepF g b d e = .ok .nx e') : forGo g b (d :: r) e = forGo g b r e' := by
  unfold stepF at h
  show (g (.d d) e).bind _ = _
  cases e1 : g (.d d) e with
  | exc x y => rw [e1] at h; cases h
  | bad => rw [e1] at h; cases h
  | ok u e2 => rw [e1, Rs.bind_ok] at h; rw [Rs.bind_ok, h]
theorem for_rt {g : MG} {b : MS} {d : D} {r : List D} {e e' : Env} {t : T} (h : stepF g b d e = .ok (.rt t) e') : forGo g b (d :: r) e = .ok (.rt t) e' := by
  unfold stepF at h
  show (g (.d d) e).bind _ = _
  cases e1 : g (.d d) e with
  | exc x y => rw [e1] at h; cases h
  | bad => rw [e1] at h; cases h
  | ok u e2 => rw [e1, Rs.bind_ok] at h; rw [Rs.bind_ok, h]
theorem for_inv {g : MG} {b : MS} (I : Nat → Env → Prop) : ∀ (ds : List D) (i : Nat) (env : Env), I i env → (∀ j d env, ds[j]? = some d → I (i + j) env → ∃ e2, stepF g b d env = .ok .nx e2 ∧ I (i + j + 1) e2) → ∃ e', forGo g b ds env = .ok .nx e' ∧ I (i + ds.length) e'
  | [], i, env, h, _ => ⟨env, rfl, h⟩
  | d :: r, i, env, h, s => by
    obtain ⟨e2, h1, h3⟩ := s 0 d env rfl h
    obtain ⟨e', h4, h5⟩ := for_inv (g := g) (b := b) I r (i + 1) e2 h3 fun j x env hx hI => by
      have := s (j + 1) x env hx (by rw [show i + (j + 1) = i + 1 + j by omega]; exact hI)
      rw [show i + (j + 1) = i + 1 + j by omega] at this
      exact this
    exact ⟨e', (for_step h1).trans h4, by rw [List.length_cons, show i + (r.length + 1) = i + 1 + r.length by omega]; exact h5⟩
theorem for_at {A : AS} {f : List T → Option (List D)} {ma : MA} {g : MG} {b : MS} {env e1 e2 : Env} {os : List Op} {ts : List T} {ds : List D} {r : Rs Fl} (h1 : ma env = .ok os e1) (h2 : takeOps os e1 = some (ts, e2)) (h3 : f ts = some ds) (h4 : opsFree A os = true) (h5 : forGo g b ds e2 = r) : mFor A f ma g b env = r.env fun e3 => putOps os (ts.map some) e3 := by
  rw [p_for, h1, Rs.bind_ok, h2]
  dsimp only
  rw [h3]
  dsimp only
  rw [if_pos h4, h5]
theorem comp_at {vs : List Nat} {f : List T → Option (List D)} {ma : MA} {g : MG} {t : MB} {m : MD} {env e1 e2 e3 : Env} {os : List Op} {ts : List T} {ds acc : List D} (h1 : ma env = .ok os e1) (h2 : takeOps os e1 = some (ts, e2)) (h3 : f ts = some ds) (h5 : compGo vs g t m ds (wipeE e2 vs) [] = .ok acc e3) : mComp vs f ma g t m env = .ok (.l acc) (putOps os (ts.map some) (unwipeE e2 e3 vs)) := by
  rw [p_comp, h1, Rs.bind_ok, h2]
  dsimp only
  rw [h3]
  dsimp only
  rw [h5]
theorem rangeD_at {n j : Nat} {d : D} (h : (rangeD 0 n)[j]? = some d) : j < n ∧ d = .int (j : Int) := by
  by_cases hj : j < n
  · rw [rangeD_get 0 n j hj] at h
    cases h
    exact ⟨hj, by rw [Int.zero_add]⟩
  · rw [List.getElem?_eq_none (by rw [rangeD_len]; omega)] at h
    cases h
theorem cut_all {xs : List D} : cutD xs none none = xs := by
  unfold cutD HT.sIx; simp
theorem cut_to {xs : List D} {i : Int} (h : 0 ≤ i) : cutD xs none (some i) = xs.take i.toNat := by
  show (xs.drop 0).take ((if i < 0 then (i + (xs.length : Int)).toNat else min i.toNat xs.length) - 0) = _
  rw [if_neg (by omega)]
  simp only [List.drop_zero, Nat.sub_zero]
  rcases Nat.le_total i.toNat xs.length with h2 | h2
  · rw [Nat.min_eq_left h2]
  · rw [Nat.min_eq_right h2, List.take_length, List.take_of_length_le h2]
theorem cut_from {xs : List D} {i : Int} (h : 0 ≤ i) : cutD xs (some i) none = xs.drop i.toNat := by
  show (xs.drop (if i < 0 then (i + (xs.length : Int)).toNat else min i.toNat xs.length)).take (xs.length - (if i < 0 then (i + (xs.length : Int)).toNat else min i.toNat xs.length)) = _
  rw [if_neg (by omega)]
  rcases Nat.le_total i.toNat xs.length with h2 | h2
  · rw [Nat.min_eq_left h2, List.take_of_length_le (by rw [List.length_drop]; omega)]
  · rw [Nat.min_eq_right h2, List.drop_length, List.drop_eq_nil_of_le h2, List.take_nil]
end NS
namespace NS
open PySem L2
/-! ### the mirrors -/
def q_cleared_0 : MS := (mAsg (mDE (mED (mOp2 bIx (mPk 1) (mPk 2)))) (gN 4))
def q_cleared_1 : MS := (mAsg (mDE (mED (mOp2 bIx (mPk 0) (mPk 2)))) (gN 5))
def q_cleared_2 : MS := (mRet (mDE (mED (mComp [6, 7] fZip (aCons (mPk 0) (aCons (mPk 1) aNil)) (gTup' 2 (gCons' (gN 6) (gCons' (gN 7) gNil'))) mYes (mED (mOp2 bFdiv (mEO (mOp2 bSub (mEO (mOp2 bMul (mPk 4) (mPk 6))) (mEO (mOp2 bMul (mPk 5) (mPk 7))))) (mPk 3)))))))
def mb_cleared : MS := (mSeq q_cleared_0
  (mSeq q_cleared_1
  q_cleared_2))
def m_cleared : Fn := mFn 4 8 (aOr (aOne 4) (aOr (aOne 5) aNo)) mb_cleared
def q_independent_rows_0 : MS := (mAsg ((fun m => mDE (mED m)) (mComp [7, 2] fEnum (aCons (mPk 1) aNil) (gTup' 2 (gCons' (gN 7) (gCons' (gN 2) gNil'))) (mB (mOp2 bNe (mEO (mOp2 bIx (mPk 2) (mPk 5))) (mDO (mC (.int 0))))) (mUse 7))) (gN 6))
def q_independent_rows_1 : MS := (mIfS (mTru (mPk 6)) (mSeq (mAsg (mDE (mED (mOp2 bIx (mPk 1) (mEO (mOp2 bIx (mPk 6) (mDO (mC (.int 0)))))))) (gN 8))
  (mSeq (mAsg (mDE (mED (mOp2 bAdd (mEO (mSl (mPk 1) iNone (iSome (mED (mOp2 bIx (mPk 6) (mDO (mC (.int 0)))))))) (mEO (mSl (mPk 1) (iSome (mED (mOp2 bAdd (mEO (mOp2 bIx (mPk 6) (mDO (mC (.int 0))))) (mDO (mC (.int 1)))))) iNone))))) (gN 9))
  (mSeq (mAsg ((fun m => mDE (mED m)) (mComp [2] fSeq (aCons (mPk 9) aNil) (gN 2) mYes (mED (mCall m_cleared (aCons (mPk 2) (aCons (mPk 8) (aCons (mPk 5) (aCons (mPk 3) aNil)))))))) (gN 1))
  (mSeq (mAsg (mDE (mED (mOp2 bIx (mPk 8) (mPk 5)))) (gN 3))
  (mAug 4 (fun i j => i + j) (mDE (mC (.int 1)))))))) mPass)
def b_independent_rows_2 : MS := (mSeq q_independent_rows_0
  q_independent_rows_1)
def q_independent_rows_3 : MS := (mAsg ((fun m => mDE (mED m)) (mComp [2] fSeq (aCons (mPk 0) aNil) (gN 2) mYes (mED (mCB (f1 bList) (aCons (mPk 2) aNil))))) (gN 1))
def q_independent_rows_4 : MS := (mFor (aOr (aOne 5) (aOr (aOne 6) (aOr (aOr (aOne 8) (aOr (aOne 9) (aOr (aOne 1) (aOr (aOne 3) (aOne 4))))) aNo))) fR1 (aCons (mDO (mIf (mTru (mPk 1)) (mED (mCB (f1 bLen) (aCons (mEO (mOp2 bIx (mPk 1) (mDO (mC (.int 0))))) aNil))) (mC (.int 0)))) aNil) (gN 5) b_independent_rows_2)
def mb_independent_rows : MS := (mSeq q_independent_rows_3
  (mSeq (mAsg (mDE (mC (.int 1))) (gN 3))
  (mSeq (mAsg (mDE (mC (.int 0))) (gN 4))
  (mSeq q_independent_rows_4
  (mRet (mDE (mUse 4)))))))
def m_independent_rows : Fn := mFn 1 10 (aOr (aOne 1) (aOr (aOne 3) (aOr (aOne 4) (aOr (aOr (aOne 5) (aOr (aOne 6) (aOr (aOr (aOne 8) (aOr (aOne 9) (aOr (aOne 1) (aOr (aOne 3) (aOne 4))))) aNo))) aNo)))) mb_independent_rows
def q_determinant_0 : MS := (mAsg ((fun m => mDE (mED m)) (mComp [7, 2] fEnum (aCons (mPk 1) aNil) (gTup' 2 (gCons' (gN 7) (gCons' (gN 2) gNil'))) (mB (mOp2 bNe (mEO (mOp2 bIx (mPk 2) (mPk 5))) (mDO (mC (.int 0))))) (mUse 7))) (gN 6))
def q_determinant_1 : MS := (mIfS (mNotT (mTru (mPk 6))) (mRet (mDE (mC (.int 0)))) mPass)
def q_determinant_2 : MS := (mAsg (mDE (mED (mOp2 bIx (mPk 1) (mEO (mOp2 bIx (mPk 6) (mDO (mC (.int 0)))))))) (gN 8))
def q_determinant_3 : MS := (mAsg (mDE (mED (mOp2 bAdd (mEO (mSl (mPk 1) iNone (iSome (mED (mOp2 bIx (mPk 6) (mDO (mC (.int 0)))))))) (mEO (mSl (mPk 1) (iSome (mED (mOp2 bAdd (mEO (mOp2 bIx (mPk 6) (mDO (mC (.int 0))))) (mDO (mC (.int 1)))))) iNone))))) (gN 9))
def q_determinant_4 : MS := (mAsg (mDE (mIf (mB (mOp2 bEq (mEO (mOp2 bMod (mEO (mOp2 bIx (mPk 6) (mDO (mC (.int 0))))) (mDO (mC (.int 2))))) (mDO (mC (.int 0))))) (mUse 4) (mED (mOp1 uNeg (mPk 4))))) (gN 4))
def q_determinant_5 : MS := (mAsg ((fun m => mDE (mED m)) (mComp [2] fSeq (aCons (mPk 9) aNil) (gN 2) mYes (mED (mCall m_cleared (aCons (mPk 2) (aCons (mPk 8) (aCons (mPk 5) (aCons (mPk 3) aNil)))))))) (gN 1))
def q_determinant_6 : MS := (mAsg (mDE (mED (mOp2 bIx (mPk 8) (mPk 5)))) (gN 3))
def b_determinant_7 : MS := (mSeq q_determinant_0
  (mSeq q_determinant_1
  (mSeq q_determinant_2
  (mSeq q_determinant_3
  (mSeq q_determinant_4
  (mSeq q_determinant_5
  q_determinant_6))))))
def q_determinant_8 : MS := (mAsg ((fun m => mDE (mED m)) (mComp [2] fSeq (aCons (mPk 0) aNil) (gN 2) mYes (mED (mCB (f1 bList) (aCons (mPk 2) aNil))))) (gN 1))
def q_determinant_9 : MS := (mFor (aOr (aOne 5) (aOr (aOne 6) (aOr (aOr aNo aNo) (aOr (aOne 8) (aOr (aOne 9) (aOr (aOne 4) (aOr (aOne 1) (aOne 3)))))))) fR1 (aCons (mEO (mCB (f1 bLen) (aCons (mPk 0) aNil))) aNil) (gN 5) b_determinant_7)
def q_determinant_10 : MS := (mRet (mDE (mED (mOp2 bMul (mPk 4) (mPk 3)))))
def mb_determinant : MS := (mSeq q_determinant_8
  (mSeq (mAsg (mDE (mC (.int 1))) (gN 3))
  (mSeq (mAsg (mDE (mC (.int 1))) (gN 4))
  (mSeq q_determinant_9
  q_determinant_10))))
def m_determinant : Fn := mFn 1 10 (aOr (aOne 1) (aOr (aOne 3) (aOr (aOne 4) (aOr (aOr (aOne 5) (aOr (aOne 6) (aOr (aOr aNo aNo) (aOr (aOne 8) (aOr (aOne 9) (aOr (aOne 4) (aOr (aOne 1) (aOne 3)))))))) aNo)))) mb_determinant
def q__law_bag_0 : MS := (mAsg (mDE (mED (mOp2 bMod (mEO (mCB (f1 bInt) (aCons (mEO (mOp2 bAdd (mEO (mOp2 bAdd (mEO (mOp2 bMul (mPk 1) (mDO (mC (.int 69069))))) (mEO (mOp2 bMul (mEO (mOp2 bMod (mEO (mCB (f1 bInt) (aCons (mPk 2) aNil))) (mDO (mC (.int 2147483563))))) (mDO (mC (.int 3))))))) (mDO (mC (.int 41))))) aNil))) (mDO (mC (.int 2147483579)))))) (gN 1))
def b__law_bag_1 : MS := q__law_bag_0
def q__law_bag_2 : MS := (mFor (aOr (aOne 2) (aOne 1)) fSeq (aCons (mEO (mSl (mPk 0) iNone (iSome (mC (.int 63))))) aNil) (gN 2) b__law_bag_1)
def q__law_bag_3 : MS := (mRet (mLst (dCons (mED (mCB (f1 bList) (aCons (mEO (mSl (mPk 0) iNone (iSome (mC (.int 63))))) aNil))) (dCons (mC (.int 0)) (dCons (mC (.int 0)) (dCons (mUse 1) (dCons (mC (.int 0)) dNil)))))))
def mb__law_bag : MS := (mSeq (mAsg (mDE (mC (.int 13976))) (gN 1))
  (mSeq q__law_bag_2
  q__law_bag_3))
def m__law_bag : Fn := mFn 1 3 (aOr (aOne 1) (aOr (aOr (aOne 2) (aOne 1)) aNo)) mb__law_bag
def q__law_draw_0 : MS := (mAsg (mDE (mED (mOp2 bAdd (mEO (mOp2 bIx (mPk 0) (mDO (mC (.int 4))))) (mDO (mC (.int 1)))))) (gSubL 0 (mC (.int 4))))
def q__law_draw_1 : MS := (mIfS (mAndT (mB (mOp2 bEq (mEO (mOp2 bIx (mPk 0) (mDO (mC (.int 2))))) (mDO (mC (.int 0))))) (mB (mOp2 bLt (mEO (mOp2 bIx (mPk 0) (mDO (mC (.int 1))))) (mEO (mCB (f1 bLen) (aCons (mEO (mOp2 bIx (mPk 0) (mDO (mC (.int 0))))) aNil)))))) (mSeq (mAsg (mDE (mED (mOp2 bIx (mEO (mOp2 bIx (mPk 0) (mDO (mC (.int 0))))) (mEO (mOp2 bIx (mPk 0) (mDO (mC (.int 1)))))))) (gN 2))
  (mSeq (mAsg (mDE (mED (mOp2 bAdd (mEO (mOp2 bIx (mPk 0) (mDO (mC (.int 1))))) (mDO (mC (.int 1)))))) (gSubL 0 (mC (.int 1))))
  (mIfS (mB (mOp2 bGe (mPk 2) (mEO (mOp2 bPow (mDO (mC (.int 10))) (mDO (mC (.int 18))))))) (mAsg (mDE (mUse 2)) (gSubL 0 (mC (.int 2)))) (mAsg (mDE (mED (mOp2 bMod (mEO (mCB (f1 bInt) (aCons (mEO (mOp2 bAdd (mEO (mOp2 bAdd (mEO (mOp2 bMul (mEO (mOp2 bIx (mPk 0) (mDO (mC (.int 3))))) (mDO (mC (.int 69621))))) (mEO (mOp2 bMul (mEO (mOp2 bMod (mEO (mCB (f1 bInt) (aCons (mPk 2) aNil))) (mDO (mC (.int 2147483549))))) (mDO (mC (.int 30103))))))) (mDO (mC (.int 97))))) aNil))) (mDO (mC (.int 2147483579)))))) (gSubL 0 (mC (.int 3))))))) mPass)
def q__law_draw_2 : MS := (mIfS (mB (mOp2 bGt (mEO (mOp2 bIx (mPk 0) (mDO (mC (.int 2))))) (mDO (mC (.int 0))))) (mSeq (mAsg (mDE (mED (mOp2 bMod (mEO (mCB (f1 bInt) (aCons (mEO (mOp2 bIx (mPk 0) (mDO (mC (.int 2))))) aNil))) (mPk 1)))) (gN 3))
  (mSeq (mAsg (mDE (mED (mOp2 bFdiv (mEO (mOp2 bIx (mPk 0) (mDO (mC (.int 2))))) (mPk 1)))) (gSubL 0 (mC (.int 2))))
  (mRet (mDE (mUse 3))))) mPass)
def q__law_draw_3 : MS := (mAsg (mDE (mED (mOp2 bMod (mEO (mCB (f1 bInt) (aCons (mEO (mOp2 bAdd (mEO (mOp2 bAdd (mEO (mOp2 bPow (mEO (mOp2 bIx (mPk 0) (mDO (mC (.int 3))))) (mDO (mC (.int 3))))) (mEO (mOp2 bMul (mEO (mOp2 bIx (mPk 0) (mDO (mC (.int 4))))) (mDO (mC (.int 1299709))))))) (mDO (mC (.int 60013))))) aNil))) (mDO (mC (.int 2147483579)))))) (gSubL 0 (mC (.int 3))))
def q__law_draw_4 : MS := (mRet (mDE (mED (mOp2 bMod (mEO (mCB (f1 bInt) (aCons (mEO (mOp2 bAdd (mEO (mOp2 bFdiv (mEO (mOp2 bIx (mPk 0) (mDO (mC (.int 3))))) (mDO (mC (.int 97))))) (mEO (mOp2 bMul (mEO (mOp2 bMod (mEO (mCB (f1 bInt) (aCons (mEO (mOp2 bIx (mPk 0) (mDO (mC (.int 3))))) aNil))) (mDO (mC (.int 7901))))) (mDO (mC (.int 67))))))) aNil))) (mPk 1)))))
def mb__law_draw : MS := (mSeq q__law_draw_0
  (mSeq q__law_draw_1
  (mSeq q__law_draw_2
  (mSeq q__law_draw_3
  q__law_draw_4))))
def m__law_draw : Fn := mFn 2 4 (aOr aNo (aOr (aOr (aOr (aOne 2) (aOr aNo (aOr aNo aNo))) aNo) (aOr (aOr (aOr (aOne 3) (aOr aNo aNo)) aNo) (aOr aNo aNo)))) mb__law_draw
def q__law_of_0 : MS := (mRet (mDE (mED (mOp2 bIx (mPk 1) (mEO (mCall m__law_draw (aCons (mPk 0) (aCons (mDO (mED (mCB (f1 bLen) (aCons (mPk 1) aNil)))) aNil))))))))
def mb__law_of : MS := q__law_of_0
def m__law_of : Fn := mFn 2 2 aNo mb__law_of
def q__law_mixed_0 : MS := (mDrop (mUpd 2 uInsert (dCons (mED (mCall m__law_draw (aCons (mPk 0) (aCons (mDO (mED (mOp2 bAdd (mEO (mCB (f1 bLen) (aCons (mPk 2) aNil))) (mDO (mC (.int 1)))))) aNil)))) (dCons (mUse 3) dNil))))
def b__law_mixed_1 : MS := q__law_mixed_0
def q__law_mixed_2 : MS := (mFor (aOr (aOne 3) aNo) fSeq (aCons (mPk 1) aNil) (gN 3) b__law_mixed_1)
def mb__law_mixed : MS := (mSeq (mAsg (mLst dNil) (gN 2))
  (mSeq q__law_mixed_2
  (mRet (mDE (mUse 2)))))
def m__law_mixed : Fn := mFn 2 4 (aOr (aOne 2) (aOr (aOr (aOne 3) aNo) aNo)) mb__law_mixed
def q__law_like_0 (mrec : Fn) : MS := (mIfS (mB (mIsi [] [.lst, .tup] (mPk 1))) (mSeq (mIfS (mOrT (mB (mOp2 bNe (mEO (mIsi [] [.lst] (mPk 0))) (mEO (mIsi [] [.lst] (mPk 1))))) (mB (mOp2 bNe (mEO (mIsi [] [.tup] (mPk 0))) (mEO (mIsi [] [.tup] (mPk 1)))))) (mRet (mDE (mC (.bl false)))) mPass)
  (mRet (mDE (mAndV (mED (mOp2 bEq (mEO (mCB (f1 bLen) (aCons (mPk 0) aNil))) (mEO (mCB (f1 bLen) (aCons (mPk 1) aNil))))) (mED (mCB (f1 bAll) (aCons (mEO (mComp [2, 3] fZip (aCons (mPk 0) (aCons (mPk 1) aNil)) (gTup' 2 (gCons' (gN 2) (gCons' (gN 3) gNil'))) mYes (mED (mCall mrec (aCons (mPk 2) (aCons (mPk 3) aNil)))))) aNil))))))) mPass)
def q__law_like_1 : MS := (mIfS (mOrT (mB (mIsN (mPk 1))) (mB (mIsN (mPk 0)))) (mRet (mDE (mAndV (mED (mIsN (mPk 1))) (mED (mIsN (mPk 0)))))) mPass)
def q__law_like_2 : MS := (mIfS (mOrT (mB (mIsi [] [.lst, .tup] (mPk 0))) (mB (mOp2 bNe (mEO (mIsi [] [.bl] (mPk 0))) (mEO (mIsi [] [.bl] (mPk 1)))))) (mRet (mDE (mC (.bl false)))) mPass)
def q__law_like_3 : MS := (mIfS (mOrT (mB (mOp2 bNe (mEO (mIsi [] [.str] (mPk 0))) (mEO (mIsi [] [.str] (mPk 1))))) (mB (mOp2 bNe (mEO (mIsi [] [.int] (mPk 0))) (mEO (mIsi [] [.int] (mPk 1)))))) (mRet (mDE (mC (.bl false)))) mPass)
def q__law_like_4 : MS := (mRet (mDE (mED (mOp2 bEq (mPk 0) (mPk 1)))))
def mb__law_like (mrec : Fn) : MS := (mSeq (q__law_like_0 mrec)
  (mSeq q__law_like_1
  (mSeq q__law_like_2
  (mSeq q__law_like_3
  q__law_like_4))))
def m__law_like : Nat → Fn
  | 0 => fun _ => .bad
  | d + 1 => mFn 2 4 (aOr (aOr (aOr (aOr aNo aNo) aNo) aNo) (aOr (aOr aNo aNo) (aOr (aOr aNo aNo) (aOr (aOr aNo aNo) aNo)))) (mb__law_like (m__law_like d))
def q__law_det_0 (mrec : Fn) : MS := (mIfS (mB (mOp2 bNe (mEO (mOp2 bIx (mEO (mOp2 bIx (mPk 0) (mDO (mC (.int 0))))) (mPk 2))) (mDO (mC (.int 0))))) (mAsg (mDE (mED (mOp2 bAdd (mPk 1) (mEO (mOp2 bMul (mEO (mOp2 bMul (mEO (mOp2 bSub (mDO (mC (.int 1))) (mEO (mOp2 bMul (mDO (mC (.int 2))) (mEO (mOp2 bMod (mEO (mCB (f1 bInt) (aCons (mPk 2) aNil))) (mDO (mC (.int 2))))))))) (mEO (mOp2 bIx (mEO (mOp2 bIx (mPk 0) (mDO (mC (.int 0))))) (mPk 2))))) (mEO (mCall mrec (aCons (mDO (mED (mComp [3] fSeq (aCons (mEO (mSl (mPk 0) (iSome (mC (.int 1))) iNone)) aNil) (gN 3) mYes (mED (mOp2 bAdd (mEO (mSl (mPk 3) iNone (iSome (mUse 2)))) (mEO (mSl (mPk 3) (iSome (mED (mOp2 bAdd (mPk 2) (mDO (mC (.int 1)))))) iNone))))))) aNil)))))))) (gN 1)) mPass)
def b__law_det_1 (mrec : Fn) : MS := (q__law_det_0 mrec)
def q__law_det_2 : MS := (mIfS (mB (mOp2 bEq (mPk 0) (mEO (mLst dNil)))) (mRet (mDE (mC (.int 1)))) mPass)
def q__law_det_3 (mrec : Fn) : MS := (mFor (aOr (aOne 2) (aOr (aOne 1) aNo)) fR1 (aCons (mEO (mCB (f1 bLen) (aCons (mPk 0) aNil))) aNil) (gN 2) (b__law_det_1 mrec))
def mb__law_det (mrec : Fn) : MS := (mSeq q__law_det_2
  (mSeq (mAsg (mDE (mC (.int 0))) (gN 1))
  (mSeq (q__law_det_3 mrec)
  (mRet (mDE (mUse 1))))))
def m__law_det : Nat → Fn
  | 0 => fun _ => .bad
  | d + 1 => mFn 1 4 (aOr (aOr aNo aNo) (aOr (aOne 1) (aOr (aOr (aOne 2) (aOr (aOne 1) aNo)) aNo))) (mb__law_det (m__law_det d))
def q__law_number_0 : MS := (mAsg (mDE (mED (mCall m__law_draw (aCons (mPk 0) (aCons (mDO (mC (.int 8))) aNil))))) (gN 2))
def q__law_number_1 : MS := (mIfS (mB (mOp2 bLt (mPk 2) (mDO (mC (.int 2))))) (mRet (mDE (mC (.int 0)))) mPass)
def q__law_number_2 : MS := (mIfS (mAndT (mTru (mPk 1)) (mB (mOp2 bLt (mPk 2) (mDO (mC (.int 6)))))) (mSeq (mAsg (mDE (mED (mOp2 bAdd (mEO (mOp2 bAdd (mEO (mOp2 bMul (mEO (mCall m__law_draw (aCons (mPk 0) (aCons (mDO (mED (mOp2 bPow (mDO (mC (.int 10))) (mDO (mC (.int 7)))))) aNil)))) (mEO (mOp2 bPow (mDO (mC (.int 10))) (mDO (mC (.int 14))))))) (mEO (mOp2 bMul (mEO (mCall m__law_draw (aCons (mPk 0) (aCons (mDO (mED (mOp2 bPow (mDO (mC (.int 10))) (mDO (mC (.int 7)))))) aNil)))) (mEO (mOp2 bPow (mDO (mC (.int 10))) (mDO (mC (.int 7))))))))) (mEO (mCall m__law_draw (aCons (mPk 0) (aCons (mDO (mED (mOp2 bPow (mDO (mC (.int 10))) (mDO (mC (.int 7)))))) aNil))))))) (gN 3))
  (mRet (mDE (mIf (mB (mOp2 bLt (mPk 2) (mDO (mC (.int 4))))) (mUse 3) (mED (mOp2 bSub (mDO (mC (.int 0))) (mPk 3))))))) mPass)
def q__law_number_3 : MS := (mRet (mDE (mED (mOp2 bSub (mEO (mCall m__law_draw (aCons (mPk 0) (aCons (mDO (mC (.int 7))) aNil)))) (mDO (mC (.int 3)))))))
def mb__law_number : MS := (mSeq q__law_number_0
  (mSeq q__law_number_1
  (mSeq q__law_number_2
  q__law_number_3)))
def m__law_number : Fn := mFn 2 4 (aOr (aOne 2) (aOr (aOr aNo aNo) (aOr (aOr (aOr (aOne 3) aNo) aNo) aNo))) mb__law_number
def q__law_numbers_0 : MS := (mAsg (mDE (mED (mCall m__law_draw (aCons (mPk 0) (aCons (mDO (mC (.int 8))) aNil))))) (gN 6))
def q__law_numbers_1 : MS := (mIfS (mAndT (mB (mOp2 bEq (mPk 6) (mDO (mC (.int 0))))) (mB (mOp2 bGt (mPk 5) (mDO (mC (.int 1)))))) (mSeq (mPar (eCons (mDE (mED (mCall m__law_of (aCons (mPk 0) (aCons (mPk 4) aNil))))) (eCons (mDE (mED (mCall m__law_of (aCons (mPk 0) (aCons (mPk 4) aNil))))) eNil)) (gCons' (gN 7) (gCons' (gN 8) gNil')))
  (mSeq (mPar (eCons (mDE (mED (mCall m__law_number (aCons (mPk 0) (aCons (mPk 3) aNil))))) (eCons (mDE (mED (mCall m__law_number (aCons (mPk 0) (aCons (mPk 3) aNil))))) eNil)) (gCons' (gN 9) (gCons' (gN 10) gNil')))
  (mDrop (mUpd 4 uAppend (dCons (mED (mComp [11, 12] fZip (aCons (mPk 7) (aCons (mPk 8) aNil)) (gTup' 2 (gCons' (gN 11) (gCons' (gN 12) gNil'))) mYes (mED (mOp2 bAdd (mEO (mOp2 bMul (mPk 9) (mPk 11))) (mEO (mOp2 bMul (mPk 10) (mPk 12))))))) dNil))))) (mIfS (mAndT (mB (mOp2 bEq (mPk 6) (mDO (mC (.int 1))))) (mB (mOp2 bGt (mPk 5) (mDO (mC (.int 0)))))) (mDrop (mUpd 4 uAppend (dCons (mED (mCB (f1 bList) (aCons (mEO (mCall m__law_of (aCons (mPk 0) (aCons (mPk 4) aNil)))) aNil))) dNil))) (mIfS (mAndT (mB (mOp2 bEq (mPk 6) (mDO (mC (.int 2))))) (mB (mOp2 bEq (mEO (mCall m__law_draw (aCons (mPk 0) (aCons (mDO (mC (.int 3))) aNil)))) (mDO (mC (.int 0)))))) (mDrop (mUpd 4 uAppend (dCons (mED (mOp2 bMul (mEO (mLst (dCons (mC (.int 0)) dNil))) (mPk 2))) dNil))) (mDrop (mUpd 4 uAppend (dCons (mED (mComp [13] fR1 (aCons (mPk 2) aNil) (gN 13) mYes (mED (mCall m__law_number (aCons (mPk 0) (aCons (mPk 3) aNil)))))) dNil))))))
def b__law_numbers_2 : MS := (mSeq q__law_numbers_0
  q__law_numbers_1)
def q__law_numbers_3 : MS := (mAsg (mDE (mED (mOp2 bEq (mEO (mCall m__law_draw (aCons (mPk 0) (aCons (mDO (mC (.int 4))) aNil)))) (mDO (mC (.int 0)))))) (gN 3))
def q__law_numbers_4 : MS := (mFor (aOr (aOne 5) (aOr (aOne 6) (aOr (aOr (aOr (aOne 7) (aOr (aOne 8) aNo)) (aOr (aOr (aOne 9) (aOr (aOne 10) aNo)) aNo)) (aOr aNo (aOr aNo aNo))))) fR1 (aCons (mPk 1) aNil) (gN 5) b__law_numbers_2)
def q__law_numbers_5 : MS := (mIfS (mAndT (mB (mOp2 bGt (mPk 2) (mDO (mC (.int 0))))) (mB (mOp2 bEq (mEO (mCall m__law_draw (aCons (mPk 0) (aCons (mDO (mC (.int 8))) aNil)))) (mDO (mC (.int 0)))))) (mSeq (mAsg (mDE (mED (mCall m__law_draw (aCons (mPk 0) (aCons (mPk 2) aNil))))) (gN 14))
  (mAsg (id (mComp [15] fSeq (aCons (mPk 4) aNil) (gN 15) mYes (mED (mOp2 bAdd (mEO (mOp2 bAdd (mEO (mSl (mPk 15) iNone (iSome (mUse 14)))) (mEO (mLst (dCons (mC (.int 0)) dNil))))) (mEO (mSl (mPk 15) (iSome (mED (mOp2 bAdd (mPk 14) (mDO (mC (.int 1)))))) iNone)))))) (gN 4))) mPass)
def q__law_numbers_6 : MS := (mRet (mDE (mED (mCall m__law_mixed (aCons (mPk 0) (aCons (mPk 4) aNil))))))
def mb__law_numbers : MS := (mSeq q__law_numbers_3
  (mSeq (mAsg (mLst dNil) (gN 4))
  (mSeq q__law_numbers_4
  (mSeq q__law_numbers_5
  q__law_numbers_6))))
def m__law_numbers : Fn := mFn 3 16 (aOr (aOne 3) (aOr (aOne 4) (aOr (aOr (aOne 5) (aOr (aOne 6) (aOr (aOr (aOr (aOne 7) (aOr (aOne 8) aNo)) (aOr (aOr (aOne 9) (aOr (aOne 10) aNo)) aNo)) (aOr aNo (aOr aNo aNo))))) (aOr (aOr (aOr (aOne 14) (aOne 4)) aNo) aNo)))) mb__law_numbers
def q__law_turned_0 : MS := (mRet (mDE (mED (mComp [2] fR1 (aCons (mPk 1) aNil) (gN 2) mYes (mED (mComp [3] fSeq (aCons (mPk 0) aNil) (gN 3) mYes (mED (mOp2 bIx (mPk 3) (mPk 2)))))))))
def mb__law_turned : MS := q__law_turned_0
def m__law_turned : Fn := mFn 2 4 aNo mb__law_turned
def q__law_count_0 : MS := (mPar (eCons (mDE (mED (mOp2 bIx (mEO (mOp2 bIx (mPk 1) (mPk 2))) (mPk 4)))) (eCons (mDE (mED (mOp2 bIx (mEO (mOp2 bIx (mPk 1) (mPk 6))) (mPk 4)))) eNil)) (gCons' (gN 7) (gCons' (gN 8) gNil')))
def q__law_count_1 : MS := (mAsg (mDE (mED (mComp [9, 10] fZip (aCons (mEO (mOp2 bIx (mPk 1) (mPk 6))) (aCons (mEO (mOp2 bIx (mPk 1) (mPk 2))) aNil)) (gTup' 2 (gCons' (gN 9) (gCons' (gN 10) gNil'))) mYes (mED (mOp2 bSub (mEO (mOp2 bMul (mPk 7) (mPk 9))) (mEO (mOp2 bMul (mPk 8) (mPk 10)))))))) (gSubL 1 (mUse 6)))
def b__law_count_2 : MS := (mSeq q__law_count_0
  q__law_count_1)
def q__law_count_3 : MS := (mAsg ((fun m => mDE (mED m)) (mComp [6] fR2 (aCons (mPk 2) (aCons (mEO (mCB (f1 bLen) (aCons (mPk 1) aNil))) aNil)) (gN 6) (mB (mOp2 bNe (mEO (mOp2 bIx (mEO (mOp2 bIx (mPk 1) (mPk 6))) (mPk 4))) (mDO (mC (.int 0))))) (mUse 6))) (gN 5))
def q__law_count_4 : MS := (mIfS (mB (mOp2 bNe (mPk 5) (mEO (mLst dNil)))) (mSeq (mDrop (mUpd 1 uInsert (dCons (mUse 2) (dCons (mED (mUpd 1 uPopAt (dCons (mED (mOp2 bIx (mPk 5) (mDO (mC (.int 0))))) dNil))) dNil))))
  (mSeq (mFor (aOr (aOne 6) (aOr (aOr (aOne 7) (aOr (aOne 8) aNo)) aNo)) fR2 (aCons (mEO (mOp2 bAdd (mPk 2) (mDO (mC (.int 1))))) (aCons (mEO (mCB (f1 bLen) (aCons (mPk 1) aNil))) aNil)) (gN 6) b__law_count_2)
  (mAsg (mDE (mED (mOp2 bAdd (mPk 2) (mDO (mC (.int 1)))))) (gN 2)))) mPass)
def b__law_count_5 : MS := (mSeq q__law_count_3
  q__law_count_4)
def q__law_count_6 : MS := (mPar (eCons (mComp [3] fSeq (aCons (mPk 0) aNil) (gN 3) mYes (mED (mCB (f1 bList) (aCons (mPk 3) aNil)))) (eCons (mDE (mC (.int 0))) eNil)) (gCons' (gN 1) (gCons' (gN 2) gNil')))
def q__law_count_7 : MS := (mFor (aOr (aOne 4) (aOr (aOne 5) (aOr (aOr aNo (aOr (aOr (aOne 6) (aOr (aOr (aOne 7) (aOr (aOne 8) aNo)) aNo)) (aOne 2))) aNo))) fR1 (aCons (mDO (mIf (mB (mOp2 bNe (mPk 1) (mEO (mLst dNil)))) (mED (mCB (f1 bLen) (aCons (mEO (mOp2 bIx (mPk 1) (mDO (mC (.int 0))))) aNil))) (mC (.int 0)))) aNil) (gN 4) b__law_count_5)
def mb__law_count : MS := (mSeq q__law_count_6
  (mSeq q__law_count_7
  (mRet (mDE (mUse 2)))))
def m__law_count : Fn := mFn 1 11 (aOr (aOr (aOne 1) (aOr (aOne 2) aNo)) (aOr (aOr (aOne 4) (aOr (aOne 5) (aOr (aOr aNo (aOr (aOr (aOne 6) (aOr (aOr (aOne 7) (aOr (aOne 8) aNo)) aNo)) (aOne 2))) aNo))) aNo)) mb__law_count
def q__law_square_so_0 : MS := (mPar (eCons (mDE (mED (mCB (f1 bLen) (aCons (mPk 1) aNil)))) (eCons (mDE (mED (mCall (m__law_det 7) (aCons (mPk 1) aNil)))) eNil)) (gCons' (gN 2) (gCons' (gN 3) gNil')))
def q__law_square_so_1 : MS := (mAsg (id (mComp [5] fSeq (aCons (mPk 1) aNil) (gN 5) mYes (mED (mCB (f1 bList) (aCons (mPk 5) aNil))))) (gN 4))
def q__law_square_so_2 : MS := (mIfS (mOrT (mNotT (mTru (mEO (mCall (m__law_like 6) (aCons (mDO (mED (mCall m_determinant (aCons (mPk 4) aNil)))) (aCons (mPk 3) aNil)))))) (mNotT (mTru (mEO (mCall (m__law_like 6) (aCons (mPk 4) (aCons (mPk 1) aNil))))))) (mRet (mDE (mC (.bl false)))) mPass)
def q__law_square_so_3 : MS := (mIfS (mNotT (mTru (mEO (mCall (m__law_like 6) (aCons (mDO (mED (mCall m_determinant (aCons (mDO (mED (mCB (f1 bTuple) (aCons (mEO (mComp [5] fSeq (aCons (mEO (mCall m__law_turned (aCons (mPk 1) (aCons (mPk 2) aNil)))) aNil) (gN 5) mYes (mED (mCB (f1 bTuple) (aCons (mPk 5) aNil))))) aNil)))) aNil)))) (aCons (mPk 3) aNil)))))) (mRet (mDE (mC (.bl false)))) mPass)
def q__law_square_so_4 : MS := (mIfS (mB (mOp2 bGt (mPk 2) (mDO (mC (.int 1))))) (mSeq (mAsg (mDE (mED (mCall m__law_draw (aCons (mPk 0) (aCons (mPk 2) aNil))))) (gN 6))
  (mSeq (mAsg (mDE (mED (mOp2 bMod (mEO (mCB (f1 bInt) (aCons (mEO (mOp2 bAdd (mEO (mOp2 bAdd (mPk 6) (mDO (mC (.int 1))))) (mEO (mCall m__law_draw (aCons (mPk 0) (aCons (mDO (mED (mOp2 bSub (mPk 2) (mDO (mC (.int 1)))))) aNil)))))) aNil))) (mPk 2)))) (gN 7))
  (mSeq (mPar (eCons (mDE (mED (mOp2 bIx (mPk 4) (mPk 7)))) (eCons (mDE (mED (mOp2 bIx (mPk 4) (mPk 6)))) eNil)) (gCons' (gSubL 4 (mUse 6)) (gCons' (gSubL 4 (mUse 7)) gNil')))
  (mIfS (mNotT (mTru (mEO (mCall (m__law_like 6) (aCons (mDO (mED (mCallK m_determinant (fun a b => a ++ b) aNil (aCons (mDO (mUse 4)) aNil)))) (aCons (mDO (mED (mOp2 bSub (mDO (mC (.int 0))) (mPk 3)))) aNil)))))) (mRet (mDE (mC (.bl false)))) mPass)))) mPass)
def q__law_square_so_5 : MS := (mAsg (mDE (mED (mOp2 bEq (mEO (mCall m_independent_rows (aCons (mPk 1) aNil))) (mPk 2)))) (gN 8))
def q__law_square_so_6 : MS := (mRet (mDE (mAndV (mED (mOp2 bEq (mPk 8) (mEO (mOp2 bNe (mPk 3) (mDO (mC (.int 0))))))) (mED (mCall (m__law_like 6) (aCons (mDO (mED (mCall m_independent_rows (aCons (mPk 4) aNil)))) (aCons (mDO (mED (mCall m__law_count (aCons (mPk 1) aNil)))) aNil)))))))
def mb__law_square_so : MS := (mSeq q__law_square_so_0
  (mSeq q__law_square_so_1
  (mSeq q__law_square_so_2
  (mSeq q__law_square_so_3
  (mSeq q__law_square_so_4
  (mSeq q__law_square_so_5
  q__law_square_so_6))))))
def m__law_square_so : Fn := mFn 2 9 (aOr (aOr (aOne 2) (aOr (aOne 3) aNo)) (aOr (aOne 4) (aOr (aOr aNo aNo) (aOr (aOr aNo aNo) (aOr (aOr (aOr (aOne 6) (aOr (aOne 7) (aOr (aOr aNo (aOr aNo aNo)) (aOr aNo aNo)))) aNo) (aOr (aOne 8) aNo)))))) mb__law_square_so
def q_law_0 : MS := (mAsg (mDE (mED (mCall m__law_of (aCons (mPk 1) (aCons (mDO (mED (mLst (dCons (mC (.int 2)) (dCons (mC (.int 3)) (dCons (mC (.int 4)) (dCons (mC (.int 1)) (dCons (mC (.int 3)) (dCons (mC (.int 5)) dNil))))))))) aNil))))) (gN 3))
def q_law_1 : MS := (mAsg (mDE (mED (mCall m__law_numbers (aCons (mPk 1) (aCons (mPk 3) (aCons (mPk 3) aNil)))))) (gN 4))
def q_law_2 : MS := (mIfS (mNotT (mTru (mEO (mCall m__law_square_so (aCons (mPk 1) (aCons (mPk 4) aNil)))))) (mRet (mDE (mC (.bl false)))) mPass)
def q_law_3 : MS := (mPar (eCons (mDE (mED (mCall m__law_draw (aCons (mPk 1) (aCons (mDO (mC (.int 7))) aNil))))) (eCons (mDE (mED (mCall m__law_of (aCons (mPk 1) (aCons (mDO (mED (mLst (dCons (mC (.int 3)) (dCons (mC (.int 4)) (dCons (mC (.int 2)) (dCons (mC (.int 5)) (dCons (mC (.int 6)) (dCons (mC (.int 1)) (dCons (mC (.int 0)) dNil)))))))))) aNil))))) eNil)) (gCons' (gN 5) (gCons' (gN 3) gNil')))
def q_law_4 : MS := (mAsg (mDE (mED (mCall m__law_numbers (aCons (mPk 1) (aCons (mPk 5) (aCons (mPk 3) aNil)))))) (gN 6))
def q_law_5 : MS := (mAsg ((fun m => mDE (mED m)) (mComp [8] fSeq (aCons (mPk 6) aNil) (gN 8) mYes (mED (mCB (f1 bList) (aCons (mPk 8) aNil))))) (gN 7))
def q_law_6 : MS := (mAsg (mDE (mED (mCall m__law_count (aCons (mPk 6) aNil)))) (gN 9))
def q_law_7 : MS := (mIfS (mOrT (mNotT (mTru (mEO (mCall (m__law_like 6) (aCons (mDO (mED (mCall m_independent_rows (aCons (mPk 7) aNil)))) (aCons (mPk 9) aNil)))))) (mNotT (mTru (mEO (mCall (m__law_like 6) (aCons (mPk 7) (aCons (mPk 6) aNil))))))) (mRet (mDE (mC (.bl false)))) mPass)
def q_law_8 : MS := (mIfS (mAndT (mB (mOp2 bGt (mPk 5) (mDO (mC (.int 0))))) (mNotT (mTru (mEO (mCall (m__law_like 6) (aCons (mDO (mED (mCallK m_independent_rows (fun a b => a ++ b) aNil (aCons (mDO (mED (mCall m__law_turned (aCons (mPk 6) (aCons (mPk 3) aNil))))) aNil)))) (aCons (mPk 9) aNil))))))) (mRet (mDE (mC (.bl false)))) mPass)
def q_law_9 : MS := (mIfS (mNotT (mTru (mEO (mCall (m__law_like 6) (aCons (mDO (mED (mCall m_independent_rows (aCons (mDO (mED (mOp2 bAdd (mPk 7) (mPk 7)))) aNil)))) (aCons (mPk 9) aNil)))))) (mRet (mDE (mC (.bl false)))) mPass)
def q_law_10 : MS := (mIfS (mAndT (mB (mOp2 bGt (mPk 3) (mDO (mC (.int 0))))) (mNotT (mTru (mEO (mCall (m__law_like 6) (aCons (mDO (mED (mCall m_independent_rows (aCons (mDO (mED (mOp2 bAdd (mPk 7) (mEO (mLst (dCons (mED (mOp2 bMul (mEO (mLst (dCons (mC (.int 0)) dNil))) (mPk 3))) dNil)))))) aNil)))) (aCons (mPk 9) aNil))))))) (mRet (mDE (mC (.bl false)))) mPass)
def b_law_11 : MS := (mSeq q_law_0
  (mSeq q_law_1
  (mSeq q_law_2
  (mSeq q_law_3
  (mSeq q_law_4
  (mSeq q_law_5
  (mSeq q_law_6
  (mSeq q_law_7
  (mSeq q_law_8
  (mSeq q_law_9
  q_law_10))))))))))
def q_law_12 : MS := (mAsg (mCall m__law_bag (aCons (mPk 0) aNil)) (gN 1))
def q_law_13 : MS := (mIfS (mNotT (mTru (mEO (mCall (m__law_like 6) (aCons (mDO (mED (mLst (dCons (mED (mCall m_determinant (aCons (mDO (mED (mLst dNil))) aNil))) (dCons (mED (mCall m_independent_rows (aCons (mDO (mED (mLst dNil))) aNil))) (dCons (mED (mCall m_independent_rows (aCons (mDO (mTup dNil)) aNil))) (dCons (mED (mCall m_determinant (aCons (mDO (mTup dNil)) aNil))) dNil))))))) (aCons (mDO (mED (mLst (dCons (mC (.int 1)) (dCons (mC (.int 0)) (dCons (mC (.int 0)) (dCons (mC (.int 1)) dNil))))))) aNil)))))) (mRet (mDE (mC (.bl false)))) mPass)
def q_law_14 : MS := (mFor (aOr (aOne 2) (aOr (aOne 3) (aOr (aOne 4) (aOr (aOr aNo aNo) (aOr (aOr (aOne 5) (aOr (aOne 3) aNo)) (aOr (aOne 6) (aOr (aOne 7) (aOr (aOne 9) (aOr (aOr aNo aNo) (aOr (aOr aNo aNo) (aOr (aOr aNo aNo) (aOr aNo aNo)))))))))))) fR1 (aCons (mDO (mC (.int 2))) aNil) (gN 2) b_law_11)
def mb_law : MS := (mSeq q_law_12
  (mSeq q_law_13
  (mSeq q_law_14
  (mRet (mDE (mC (.bl true)))))))
def m_law : Fn := mFn 1 10 (aOr (aOne 1) (aOr (aOr aNo aNo) (aOr (aOr (aOne 2) (aOr (aOne 3) (aOr (aOne 4) (aOr (aOr aNo aNo) (aOr (aOr (aOne 5) (aOr (aOne 3) aNo)) (aOr (aOne 6) (aOr (aOne 7) (aOr (aOne 9) (aOr (aOr aNo aNo) (aOr (aOr aNo aNo) (aOr (aOr aNo aNo) (aOr aNo aNo)))))))))))) aNo))) mb_law
end NS
namespace LA
/-! ### sums -/
def sm : Nat → (Nat → Int) → Int
  | 0, _ => 0
  | n + 1, f => sm n f + f n
theorem sm_congr {f g : Nat → Int} : ∀ {n : Nat}, (∀ i, i < n → f i = g i) → sm n f = sm n g
  | 0, _ => rfl
  | n + 1, h => by
    show sm n f + f n = sm n g + g n
    rw [sm_congr fun i hi => h i (by omega), h n (by omega)]
theorem sm_zero {f : Nat → Int} : ∀ {n : Nat}, (∀ i, i < n → f i = 0) → sm n f = 0
  | 0, _ => rfl
  | n + 1, h => by
    show sm n f + f n = 0
    rw [sm_zero fun i hi => h i (by omega), h n (by omega)]; rfl
theorem sm_add (f g : Nat → Int) : ∀ n, sm n (fun i => f i + g i) = sm n f + sm n g
  | 0 => rfl
  | n + 1 => by
    show sm n (fun i => f i + g i) + (f n + g n) = (sm n f + f n) + (sm n g + g n)
    rw [sm_add f g n]; omega
theorem sm_mul (a : Int) (f : Nat → Int) : ∀ n, sm n (fun i => a * f i) = a * sm n f
  | 0 => (Int.mul_zero a).symm
  | n + 1 => by
    show sm n _ + _ = a * (sm n f + f n)
    rw [sm_mul a f n, Int.mul_add]
theorem sm_left (f : Nat → Int) : ∀ n, sm (n + 1) f = f 0 + sm n fun i => f (i + 1)
  | 0 => by show (0 : Int) + f 0 = f 0 + 0; omega
  | n + 1 => by
    show sm (n + 1) f + f (n + 1) = f 0 + (sm n (fun i => f (i + 1)) + f (n + 1))
    rw [sm_left f n]; omega
theorem sm_comm (f : Nat → Nat → Int) (m : Nat) : ∀ n, sm n (fun i => sm m fun j => f i j) = sm m fun j => sm n fun i => f i j
  | 0 => (sm_zero fun _ _ => rfl).symm
  | n + 1 => by
    show sm n (fun i => sm m fun j => f i j) + sm m (f n) = sm m fun j => sm n (fun i => f i j) + f n j
    rw [sm_comm f m n, sm_add]
theorem sm_one {f : Nat → Int} {r : Nat} : ∀ {n : Nat}, r < n → (∀ i, i < n → i ≠ r → f i = 0) → sm n f = f r
  | 0, h, _ => by omega
  | n + 1, h, z => by
    show sm n f + f n = f r
    by_cases e : r = n
    · rw [sm_zero fun i hi => z i (by omega) (by omega), e]; omega
    · rw [sm_one (by omega) fun i hi => z i (by omega), z n (by omega) (by omega)]; omega
theorem sm_two {f : Nat → Int} {r : Nat} : ∀ {n : Nat}, r + 1 < n → (∀ i, i < n → i ≠ r → i ≠ r + 1 → f i = 0) → sm n f = f r + f (r + 1)
  | 0, h, _ => by omega
  | n + 1, h, z => by
    show sm n f + f n = f r + f (r + 1)
    by_cases e : r + 1 = n
    · rw [sm_one (r := r) (by omega) fun i hi h1 => z i (by omega) h1 (by omega), e]
    · rw [sm_two (by omega) fun i hi => z i (by omega), z n (by omega) (by omega) (by omega)]; omega
/-! ### determinants, by the first row -/
abbrev Mx := Nat → Nat → Int
def skp (p i : Nat) : Nat := if i < p then i else i + 1
def sg (k : Nat) : Int := 1 - 2 * ((k % 2 : Nat) : Int)
theorem sg_succ (k : Nat) : sg (k + 1) = -sg k := by unfold sg; omega
theorem sg_zero : sg 0 = 1 := rfl
def mnr (M : Mx) (a b : Nat) : Mx := fun i j => M (skp a i) (skp b j)
def det : Nat → Mx → Int
  | 0, _ => 1
  | n + 1, M => sm (n + 1) fun k => sg k * M 0 k * det n (mnr M 0 k)
theorem skp_le {p i n : Nat} (h : i < n) : skp p i < n + 1 := by unfold skp; split <;> omega
theorem det_congr : ∀ {n : Nat} {M N : Mx}, (∀ i j, i < n → j < n → M i j = N i j) → det n M = det n N
  | 0, _, _, _ => rfl
  | n + 1, M, N, h => sm_congr fun k hk => by
    rw [h 0 k (by omega) hk, det_congr (n := n) (M := mnr M 0 k) (N := mnr N 0 k) fun i j hi hj => h _ _ (skp_le hi) (skp_le hj)]
theorem mnr_mnr (M : Mx) (i k : Nat) : mnr (mnr M 0 (k + 1)) i 0 = mnr (mnr M (i + 1) 0) 0 k := by
  funext a b
  unfold mnr
  have e1 : skp 0 (skp i a) = skp (i + 1) (skp 0 a) := by unfold skp; simp only [Nat.not_lt_zero, if_false]; split <;> split <;> omega
  have e2 : skp (k + 1) (skp 0 b) = skp 0 (skp k b) := by unfold skp; simp only [Nat.not_lt_zero, if_false]; split <;> split <;> omega
  rw [e1, e2]
/-- .. by the first column -/
theorem det_col : ∀ (n : Nat) (M : Mx), det (n + 1) M = sm (n + 1) fun i => sg i * M i 0 * det n (mnr M i 0)
  | 0, M => rfl
  | n + 1, M => by
    show sm (n + 2) (fun k => sg k * M 0 k * det (n + 1) (mnr M 0 k)) = _
    rw [sm_left _ (n + 1), sm_left (fun i => sg i * M i 0 * det (n + 1) (mnr M i 0)) (n + 1)]
    congr 1
    have l : sm (n + 1) (fun k => sg (k + 1) * M 0 (k + 1) * det (n + 1) (mnr M 0 (k + 1))) = sm (n + 1) fun k => sm (n + 1) fun i => sg (k + 1) * M 0 (k + 1) * (sg i * M (i + 1) 0 * det n (mnr (mnr M 0 (k + 1)) i 0)) :=
      sm_congr fun k hk => by rw [det_col n, ← sm_mul]; rfl
    have r : sm (n + 1) (fun i => sg (i + 1) * M (i + 1) 0 * det (n + 1) (mnr M (i + 1) 0)) = sm (n + 1) fun i => sm (n + 1) fun k => sg (i + 1) * M (i + 1) 0 * (sg k * M 0 (k + 1) * det n (mnr (mnr M (i + 1) 0) 0 k)) :=
      sm_congr fun i hi => by
        show _ * sm (n + 1) (fun k => sg k * mnr M (i + 1) 0 0 k * det n (mnr (mnr M (i + 1) 0) 0 k)) = _
        rw [← sm_mul]; rfl
    rw [l, r, sm_comm]
    refine sm_congr fun i hi => sm_congr fun k hk => ?_
    rw [mnr_mnr, sg_succ, sg_succ]
    grind
theorem mnr_T (M : Mx) (a b : Nat) : mnr (fun i j => M j i) a b = fun i j => mnr M b a j i := rfl
theorem det_T : ∀ (n : Nat) (M : Mx), det n (fun i j => M j i) = det n M
  | 0, _ => rfl
  | n + 1, M => by
    rw [det_col]
    show _ = sm (n + 1) fun k => sg k * M 0 k * det n (mnr M 0 k)
    refine sm_congr fun k hk => ?_
    rw [mnr_T, det_T n (mnr M 0 k)]
/-! ### rows -/
def upd (M : Mx) (r : Nat) (v : Nat → Int) : Mx := fun i j => if i = r then v j else M i j
theorem mnr_upd0 (M : Mx) (v : Nat → Int) (k : Nat) : mnr (upd M 0 v) 0 k = mnr M 0 k := by
  funext i j; unfold mnr upd skp; simp
theorem mnr_upd (M : Mx) (r : Nat) (v : Nat → Int) (k : Nat) : mnr (upd M (r + 1) v) 0 k = upd (mnr M 0 k) r fun j => v (skp k j) := by
  funext i j; unfold mnr upd; simp [skp]
theorem det_lin : ∀ (n : Nat) (M : Mx) (r : Nat) (a b : Int) (u v : Nat → Int), r < n → det n (upd M r fun j => a * u j + b * v j) = a * det n (upd M r u) + b * det n (upd M r v)
  | 0, _, _, _, _, _, _, h => by omega
  | n + 1, M, 0, a, b, u, v, _ => by
    show sm (n + 1) _ = a * sm (n + 1) _ + b * sm (n + 1) _
    rw [← sm_mul, ← sm_mul, ← sm_add]
    refine sm_congr fun k hk => ?_
    simp only [mnr_upd0, upd, if_true]
    grind
  | n + 1, M, r + 1, a, b, u, v, h => by
    show sm (n + 1) _ = a * sm (n + 1) _ + b * sm (n + 1) _
    rw [← sm_mul, ← sm_mul, ← sm_add]
    refine sm_congr fun k hk => ?_
    have e0 : ∀ w : Nat → Int, upd M (r + 1) w 0 k = M 0 k := fun w => by unfold upd; simp
    simp only [mnr_upd, e0]
    rw [det_lin n (mnr M 0 k) r a b (fun j => u (skp k j)) (fun j => v (skp k j)) (by omega)]
    grind
theorem upd_self (M : Mx) (r : Nat) : upd M r (M r) = M := by
  funext i j; unfold upd; split
  · rename_i h; rw [h]
  · rfl
theorem det_smul {n : Nat} {M : Mx} {r : Nat} {a : Int} {u : Nat → Int} (h : r < n) : det n (upd M r fun j => a * u j) = a * det n (upd M r u) := by
  have e := det_lin n M r a 0 u u h
  have e2 : (fun j => a * u j + 0 * u j) = fun j => a * u j := by funext j; omega
  rw [e2] at e
  rw [e]; omega
/-- two rows beside each other that are alike -/
theorem det_adj : ∀ (n : Nat) (M : Mx) (r : Nat), r + 1 < n → (∀ j, M r j = M (r + 1) j) → det n M = 0
  | 0, _, _, h, _ => by omega
  | n + 1, M, r, h, e => by
    rw [det_col, sm_two (r := r) h fun i hi h1 h2 => ?_]
    · have em : det n (mnr M r 0) = det n (mnr M (r + 1) 0) := det_congr fun i j hi hj => by
        show M (skp r i) (skp 0 j) = M (skp (r + 1) i) (skp 0 j)
        by_cases q : i < r
        · have e1 : skp r i = i := if_pos q
          have e2 : skp (r + 1) i = i := if_pos (by omega)
          rw [e1, e2]
        · have e1 : skp r i = i + 1 := if_neg q
          by_cases q2 : i = r
          · have e2 : skp (r + 1) i = i := if_pos (by omega)
            rw [e1, e2, q2]; exact (e _).symm
          · have e2 : skp (r + 1) i = i + 1 := if_neg (by omega)
            rw [e1, e2]
      rw [em, e 0, sg_succ]; grind
    · have : det n (mnr M i 0) = 0 := by
        by_cases q : i < r
        · refine det_adj n _ (r - 1) (by omega) fun j => ?_
          show M (skp i (r - 1)) (skp 0 j) = M (skp i (r - 1 + 1)) (skp 0 j)
          have e1 : skp i (r - 1) = r := by unfold skp; rw [if_neg (by omega)]; omega
          have e2 : skp i (r - 1 + 1) = r + 1 := by unfold skp; rw [if_neg (by omega)]; omega
          rw [e1, e2]; exact e _
        · refine det_adj n _ r (by omega) fun j => ?_
          show M (skp i r) (skp 0 j) = M (skp i (r + 1)) (skp 0 j)
          have e1 : skp i r = r := if_pos (by omega)
          have e2 : skp i (r + 1) = r + 1 := if_pos (by omega)
          rw [e1, e2]; exact e _
      rw [this]; omega
/-- rows exchanged, wherever equal rows give 0 -/
theorem swap_of {n a b : Nat} (hab : a ≠ b) (ha : a < n) (hb : b < n) (h0 : ∀ M : Mx, (∀ j, M a j = M b j) → det n M = 0) (M : Mx) : det n (upd (upd M a (M b)) b (M a)) = -det n M := by
  have z := h0 (upd (upd M a fun j => 1 * M a j + 1 * M b j) b fun j => 1 * M a j + 1 * M b j) fun j => by
    unfold upd; rw [if_neg hab, if_pos rfl, if_pos rfl]
  rw [det_lin n _ b _ _ _ _ hb] at z
  have cm : ∀ u v : Nat → Int, upd (upd M a u) b v = upd (upd M b v) a u := fun u v => by
    funext i j; unfold upd
    by_cases h1 : i = b
    · subst h1; rw [if_pos rfl, if_neg (by omega), if_pos rfl]
    · rw [if_neg h1]
      by_cases h2 : i = a
      · rw [if_pos h2, if_pos h2]
      · rw [if_neg h2, if_neg h2, if_neg h1]
  rw [cm, det_lin n _ a _ _ _ _ ha, cm, det_lin n _ a _ _ _ _ ha] at z
  have z1 : det n (upd (upd M b (M a)) a (M a)) = 0 := h0 _ fun j => by
    unfold upd; rw [if_pos rfl, if_neg (fun h => hab h.symm), if_pos rfl]
  have z2 : det n (upd (upd M b (M b)) a (M b)) = 0 := h0 _ fun j => by
    unfold upd; rw [if_pos rfl, if_neg (fun h => hab h.symm), if_pos rfl]
  rw [z1, z2, upd_self, upd_self, ← cm] at z
  omega
/-- two rows alike -/
theorem det_eq_rows {n : Nat} : ∀ (d a : Nat), a + d + 1 < n → ∀ M : Mx, (∀ j, M a j = M (a + d + 1) j) → det n M = 0
  | 0, a, h, M, e => det_adj n M a h e
  | d + 1, a, h, M, e => by
    have s := swap_of (n := n) (a := a + d + 1) (b := a + d + 1 + 1) (by omega) (by omega) (by omega) (fun M h' => det_adj n M _ (by omega) h') M
    have z := det_eq_rows (n := n) d a (by omega) (upd (upd M (a + d + 1) (M (a + d + 1 + 1))) (a + d + 1 + 1) (M (a + d + 1))) fun j => by
      unfold upd
      rw [if_neg (by omega), if_neg (by omega), if_neg (by omega), if_pos rfl]
      exact e j
    omega
theorem det_alike {n a b : Nat} (hab : a ≠ b) (ha : a < n) (hb : b < n) (M : Mx) (e : ∀ j, M a j = M b j) : det n M = 0 := by
  rcases Nat.lt_or_gt_of_ne hab with h | h
  · have := det_eq_rows (n := n) (b - a - 1) a (by omega) M fun j => by
      have e1 : a + (b - a - 1) + 1 = b := by omega
      rw [e1]; exact e j
    exact this
  · have := det_eq_rows (n := n) (a - b - 1) b (by omega) M fun j => by
      have e1 : b + (a - b - 1) + 1 = a := by omega
      rw [e1]; exact (e j).symm
    exact this
theorem det_swap {n a b : Nat} (hab : a ≠ b) (ha : a < n) (hb : b < n) (M : Mx) : det n (upd (upd M a (M b)) b (M a)) = -det n M := swap_of hab ha hb (det_alike hab ha hb) M
/-- the row p to the front -/
def fro (p i : Nat) : Nat := if i = 0 then p else if i - 1 < p then i - 1 else i
theorem det_front {n : Nat} : ∀ (p : Nat) (M : Mx), p < n → det n (fun i => M (fro p i)) = sg p * det n M
  | 0, M, h => by
    have : (fun i => M (fro 0 i)) = M := by funext i; unfold fro; by_cases h : i = 0 <;> simp [h]
    rw [this, sg_zero]; omega
  | p + 1, M, h => by
    have s := det_swap (n := n) (a := p) (b := p + 1) (by omega) (by omega) (by omega) M
    have ih := det_front (n := n) p (upd (upd M p (M (p + 1))) (p + 1) (M p)) (by omega)
    have e : (fun i => upd (upd M p (M (p + 1))) (p + 1) (M p) (fro p i)) = fun i => M (fro (p + 1) i) := by
      funext i j
      have key : fro p i = p ∧ fro (p + 1) i = p + 1 ∨ fro p i = p + 1 ∧ fro (p + 1) i = p ∨ fro p i = fro (p + 1) i ∧ fro p i ≠ p ∧ fro p i ≠ p + 1 := by
        unfold fro
        by_cases h0 : i = 0
        · simp [h0]
        · simp only [h0, if_false]
          by_cases h1 : i - 1 < p
          · rw [if_pos h1, if_pos (by omega)]; omega
          · rw [if_neg h1]
            by_cases h2 : i - 1 < p + 1
            · rw [if_pos h2]; omega
            · rw [if_neg h2]; omega
      unfold upd
      rcases key with ⟨a, b⟩ | ⟨a, b⟩ | ⟨a, b, c⟩
      · rw [a, b, if_neg (by omega), if_pos rfl]
      · rw [a, b, if_pos rfl]
      · rw [if_neg c, if_neg b, a]
    rw [e] at ih
    rw [ih, s, sg_succ]; grind
/-! ### one row cleared from the others -/
theorem det_part {m : Nat} (R : Mx) : ∀ t, t ≤ m → det (m + 1) (fun i j => if 0 < i ∧ i ≤ t then R 0 0 * R i j - R i 0 * R 0 j else R i j) = R 0 0 ^ t * det (m + 1) R
  | 0, _ => by
    have : (fun i j => if 0 < i ∧ i ≤ 0 then R 0 0 * R i j - R i 0 * R 0 j else R i j) = R := by funext i j; rw [if_neg (by omega)]
    rw [this]; simp
  | t + 1, h => by
    have ih := det_part (m := m) R t (by omega)
    have e : (fun i j => if 0 < i ∧ i ≤ t + 1 then R 0 0 * R i j - R i 0 * R 0 j else R i j) = upd (fun i j => if 0 < i ∧ i ≤ t then R 0 0 * R i j - R i 0 * R 0 j else R i j) (t + 1) fun j => R 0 0 * R (t + 1) j + (-R (t + 1) 0) * R 0 j := by
      funext i j; unfold upd
      by_cases h1 : i = t + 1
      · subst h1; rw [if_pos (by omega), if_pos rfl]; grind
      · rw [if_neg h1]
        dsimp only
        by_cases h2 : 0 < i ∧ i ≤ t
        · rw [if_pos h2, if_pos (by omega)]
        · rw [if_neg h2, if_neg (by omega)]
    rw [e, det_lin _ _ _ _ _ _ _ (by omega)]
    have e1 : upd (fun i j => if 0 < i ∧ i ≤ t then R 0 0 * R i j - R i 0 * R 0 j else R i j) (t + 1) (R (t + 1)) = fun i j => if 0 < i ∧ i ≤ t then R 0 0 * R i j - R i 0 * R 0 j else R i j := by
      funext i j; unfold upd
      by_cases h1 : i = t + 1
      · subst h1; rw [if_pos rfl, if_neg (by omega)]
      · rw [if_neg h1]
    rw [e1, ih, det_alike (n := m + 1) (a := 0) (b := t + 1) (by omega) (by omega) (by omega) (upd _ (t + 1) (R 0)) fun j => by unfold upd; simp, Int.pow_succ]
    grind
theorem det_low {m : Nat} (R : Mx) (h : ∀ i, 0 < i → i < m + 1 → R i 0 = 0) : det (m + 1) R = R 0 0 * det m fun i j => R (i + 1) (j + 1) := by
  rw [det_col, sm_one (r := 0) (by omega) fun i hi h0 => by rw [h i (by omega) hi]; omega]
  rw [sg_zero]
  have : mnr R 0 0 = fun i j => R (i + 1) (j + 1) := by funext i j; unfold mnr skp; simp
  rw [this, Int.one_mul]
theorem chio {m : Nat} (R : Mx) : R 0 0 * det m (fun i j => R 0 0 * R (i + 1) (j + 1) - R (i + 1) 0 * R 0 (j + 1)) = R 0 0 ^ m * det (m + 1) R := by
  rw [← det_part R m (Nat.le_refl m), det_low]
  · rw [if_neg (by omega)]
    congr 1
    refine det_congr fun i j hi hj => ?_
    rw [if_pos (by omega)]
  · intro i h1 h2
    rw [if_pos (by omega)]; grind
theorem det_mul {n : Nat} (a : Int) (M : Mx) : ∀ t, t ≤ n → det n (fun i j => if i < t then a * M i j else M i j) = a ^ t * det n M
  | 0, _ => by simp
  | t + 1, h => by
    have ih := det_mul (n := n) a M t (by omega)
    have e : (fun i j => if i < t + 1 then a * M i j else M i j) = upd (fun i j => if i < t then a * M i j else M i j) t fun j => a * M t j := by
      funext i j; unfold upd
      by_cases h1 : i = t
      · subst h1; rw [if_pos (by omega), if_pos rfl]
      · rw [if_neg h1]
        dsimp only
        by_cases h2 : i < t
        · rw [if_pos h2, if_pos (by omega)]
        · rw [if_neg h2, if_neg (by omega)]
    have e1 : upd (fun i j => if i < t then a * M i j else M i j) t (M t) = fun i j => if i < t then a * M i j else M i j := by
      funext i j; unfold upd
      by_cases h1 : i = t
      · subst h1; rw [if_pos rfl, if_neg (by omega)]
      · rw [if_neg h1]
    rw [e, det_smul (by omega), e1, ih, Int.pow_succ]; grind
theorem det_scale (n : Nat) (a : Int) (M : Mx) : det n (fun i j => a * M i j) = a ^ n * det n M := by
  rw [← det_mul a M n (Nat.le_refl n)]
  exact det_congr fun i j hi _ => by rw [if_pos hi]
end LA
namespace LA
/-! ### how many rows are needed: C M = A B with s rows in B -/
def Ub (m n : Nat) (M : Mx) (s : Nat) : Prop := ∃ C : Int, C ≠ 0 ∧ ∃ A B : Mx, ∀ i j, i < m → j < n → C * M i j = sm s fun k => A i k * B k j
theorem Ub.T {m n s : Nat} {M : Mx} (h : Ub m n M s) : Ub n m (fun i j => M j i) s := by
  obtain ⟨C, hC, A, B, e⟩ := h
  exact ⟨C, hC, fun i k => B k i, fun k j => A j k, fun i j hi hj => by rw [e j i hj hi]; exact sm_congr fun k _ => Int.mul_comm _ _⟩
/-- rows that stand among the others, or are 0 -/
theorem Ub.rows {m m' n s : Nat} {M N : Mx} (h : Ub m n M s) (hN : ∀ i, i < m' → (∀ j, j < n → N i j = 0) ∨ ∃ i', i' < m ∧ ∀ j, j < n → N i j = M i' j) : Ub m' n N s := by
  obtain ⟨C, hC, A, B, e⟩ := h
  have : ∀ i, ∃ a : Nat → Int, i < m' → ∀ j, j < n → C * N i j = sm s fun k => a k * B k j := fun i => by
    by_cases hi : i < m'
    · rcases hN i hi with h | ⟨i', h1, h2⟩
      · exact ⟨fun _ => 0, fun _ j hj => by rw [h j hj, sm_zero fun _ _ => Int.zero_mul _]; omega⟩
      · exact ⟨A i', fun _ j hj => by rw [h2 j hj, e i' j h1 hj]⟩
    · exact ⟨fun _ => 0, fun h => absurd h hi⟩
  obtain ⟨A', hA⟩ := Classical.axiomOfChoice this
  exact ⟨C, hC, A', B, fun i j hi hj => hA i hi j hj⟩
theorem Ub.zero {m n s : Nat} {M : Mx} (h : ∀ i j, i < m → j < n → M i j = 0) : Ub m n M s := ⟨1, by omega, fun _ _ => 0, fun _ _ => 0, fun i j hi hj => by rw [h i j hi hj, sm_zero fun _ _ => Int.zero_mul _]; omega⟩
theorem Ub.nil {m n : Nat} {M : Mx} (h : Ub m n M 0) : ∀ i j, i < m → j < n → M i j = 0 := fun i j hi hj => by
  obtain ⟨C, hC, A, B, e⟩ := h
  have := e i j hi hj
  rcases Int.mul_eq_zero.mp (show C * M i j = 0 from this) with h | h
  · exact absurd h hC
  · exact h
/-- one row and one column taken away: M' has the other rows, cleared -/
structure Clr (m n : Nat) (M : Mx) (m' : Nat) (M' : Mx) : Prop where
  ex : ∃ p c : Nat, p < m ∧ c < n ∧ M p c ≠ 0 ∧ ∃ d : Int, d ≠ 0 ∧
    (∀ i, i < m' → ∃ i', i' < m ∧ ∀ j, j < n → d * M' i j = M p c * M i' j - M i' c * M p j) ∧
    (∀ i', i' < m → i' = p ∨ ∃ i, i < m' ∧ ∀ j, j < n → d * M' i j = M p c * M i' j - M i' c * M p j)
theorem Clr.up {m n m' s : Nat} {M M' : Mx} (c : Clr m n M m' M') (h : Ub m' n M' s) : Ub m n M (s + 1) := by
  obtain ⟨p, q, hp, hq, h0, d, hd, _, h2⟩ := c.ex
  obtain ⟨C, hC, A, B, e⟩ := h
  refine ⟨C * M p q, Int.mul_ne_zero hC h0, ?_⟩
  have : ∀ i', ∃ a : Nat → Int, i' < m → ∀ j, j < n → C * M p q * M i' j = sm (s + 1) fun k => a k * (if k = s then M p j else B k j) := fun i' => by
    by_cases hi : i' < m
    · rcases h2 i' hi with h | ⟨i, h3, h4⟩
      · refine ⟨fun k => if k = s then C * M p q else 0, fun _ j hj => ?_⟩
        show _ = sm s _ + (if s = s then C * M p q else 0) * (if s = s then M p j else B s j)
        rw [sm_zero fun k hk => by show (if k = s then C * M p q else 0) * _ = 0; rw [if_neg (by omega), Int.zero_mul], if_pos rfl, if_pos rfl, h]; omega
      · refine ⟨fun k => if k = s then C * M i' q else d * A i k, fun _ j hj => ?_⟩
        show _ = sm s (fun k => (if k = s then C * M i' q else d * A i k) * if k = s then M p j else B k j) + (if s = s then C * M i' q else d * A i s) * (if s = s then M p j else B s j)
        rw [if_pos rfl, if_pos rfl]
        have e1 : sm s (fun k => (if k = s then C * M i' q else d * A i k) * if k = s then M p j else B k j) = d * sm s fun k => A i k * B k j := by
          rw [← sm_mul]
          exact sm_congr fun k hk => by rw [if_neg (by omega), if_neg (by omega), Int.mul_assoc]
        rw [e1, ← e i j h3 hj]
        have := h4 j hj
        grind
    · exact ⟨fun _ => 0, fun h => absurd h hi⟩
  obtain ⟨A', hA⟩ := Classical.axiomOfChoice this
  exact ⟨A', fun k j => if k = s then M p j else B k j, fun i j hi hj => hA i hi j hj⟩
theorem sm_skip (f : Nat → Int) (k0 : Nat) : ∀ s, k0 < s + 1 → sm (s + 1) f = f k0 + sm s fun k => f (skp k0 k)
  | 0, h => by
    have : k0 = 0 := by omega
    subst this
    show (0 : Int) + f 0 = f 0 + 0; omega
  | s + 1, h => by
    show sm (s + 1) f + f (s + 1) = f k0 + (sm s (fun k => f (skp k0 k)) + f (skp k0 s))
    by_cases e : k0 = s + 1
    · have e1 : skp k0 s = s := if_pos (by omega)
      have e2 : sm s (fun k => f (skp k0 k)) = sm s f := sm_congr fun k hk => by rw [show skp k0 k = k from if_pos (by omega)]
      rw [e1, e2, e]
      show sm s f + f s + f (s + 1) = f (s + 1) + (sm s f + f s); omega
    · have e1 : skp k0 s = s + 1 := if_neg (by omega)
      rw [sm_skip f k0 s (by omega), e1]; omega
theorem Clr.down {m n m' s : Nat} {M M' : Mx} (c : Clr m n M m' M') (h : Ub m n M (s + 1)) : Ub m' n M' s := by
  obtain ⟨p, q, hp, hq, h0, d, hd, h1, _⟩ := c.ex
  obtain ⟨C, hC, A, B, e⟩ := h
  obtain ⟨k0, hk0, hB⟩ : ∃ k0, k0 < s + 1 ∧ B k0 q ≠ 0 := by
    refine Classical.byContradiction fun hn => ?_
    have z : sm (s + 1) (fun k => A p k * B k q) = 0 := sm_zero fun k hk => by
      have : B k q = 0 := Classical.byContradiction fun h => hn ⟨k, hk, h⟩
      rw [this, Int.mul_zero]
    rw [← e p q hp hq] at z
    exact Int.mul_ne_zero hC h0 z
  refine ⟨B k0 q * (d * C), Int.mul_ne_zero hB (Int.mul_ne_zero hd hC), ?_⟩
  have : ∀ i, ∃ a : Nat → Int, i < m' → ∀ j, j < n → B k0 q * (d * C) * M' i j = sm s fun k => a k * (B k0 q * B (skp k0 k) j - B (skp k0 k) q * B k0 j) := fun i => by
    by_cases hi : i < m'
    · obtain ⟨i', h3, h4⟩ := h1 i hi
      refine ⟨fun k => M p q * A i' (skp k0 k) - M i' q * A p (skp k0 k), fun _ j hj => ?_⟩
      have a1 : C * M i' j = A i' k0 * B k0 j + sm s fun k => A i' (skp k0 k) * B (skp k0 k) j := by rw [e i' j h3 hj, sm_skip _ k0 s hk0]
      have a2 : C * M p j = A p k0 * B k0 j + sm s fun k => A p (skp k0 k) * B (skp k0 k) j := by rw [e p j hp hj, sm_skip _ k0 s hk0]
      have a3 : C * M i' q = A i' k0 * B k0 q + sm s fun k => A i' (skp k0 k) * B (skp k0 k) q := by rw [e i' q h3 hq, sm_skip _ k0 s hk0]
      have a4 : C * M p q = A p k0 * B k0 q + sm s fun k => A p (skp k0 k) * B (skp k0 k) q := by rw [e p q hp hq, sm_skip _ k0 s hk0]
      have b : sm s (fun k => (M p q * A i' (skp k0 k) - M i' q * A p (skp k0 k)) * (B k0 q * B (skp k0 k) j - B (skp k0 k) q * B k0 j))
          = B k0 q * (M p q * sm s (fun k => A i' (skp k0 k) * B (skp k0 k) j) + -(M i' q) * sm s fun k => A p (skp k0 k) * B (skp k0 k) j)
            + -(B k0 j) * (M p q * sm s (fun k => A i' (skp k0 k) * B (skp k0 k) q) + -(M i' q) * sm s fun k => A p (skp k0 k) * B (skp k0 k) q) := by
        rw [← sm_mul, ← sm_mul, ← sm_add, ← sm_mul, ← sm_mul, ← sm_mul, ← sm_add, ← sm_mul, ← sm_add]
        exact sm_congr fun k hk => by grind
      rw [b]
      have h5 := h4 j hj
      generalize sm s (fun k => A i' (skp k0 k) * B (skp k0 k) j) = x1 at *
      generalize sm s (fun k => A p (skp k0 k) * B (skp k0 k) j) = x2 at *
      generalize sm s (fun k => A i' (skp k0 k) * B (skp k0 k) q) = x3 at *
      generalize sm s (fun k => A p (skp k0 k) * B (skp k0 k) q) = x4 at *
      have y1 : x1 = C * M i' j - A i' k0 * B k0 j := by omega
      have y2 : x2 = C * M p j - A p k0 * B k0 j := by omega
      have y3 : x3 = C * M i' q - A i' k0 * B k0 q := by omega
      have y4 : x4 = C * M p q - A p k0 * B k0 q := by omega
      rw [y1, y2, y3, y4]
      have : B k0 q * (d * C) * M' i j = B k0 q * C * (d * M' i j) := by grind
      rw [this, h5]
      grind
    · exact ⟨fun _ => 0, fun h => absurd h hi⟩
  obtain ⟨A', hA⟩ := Classical.axiomOfChoice this
  exact ⟨A', fun k j => B k0 q * B (skp k0 k) j - B (skp k0 k) q * B k0 j, fun i j hi hj => hA i hi j hj⟩
/-- r rows are needed -/
def Rk (m n : Nat) (M : Mx) (r : Nat) : Prop := ∀ s, Ub m n M s ↔ r ≤ s
theorem Rk.one {m n r r' : Nat} {M : Mx} (h : Rk m n M r) (h' : Rk m n M r') : r = r' := by
  have a := (h' r).mp ((h r).mpr (Nat.le_refl r))
  have b := (h r').mp ((h' r').mpr (Nat.le_refl r'))
  omega
theorem Rk.zero {m n : Nat} {M : Mx} (h : ∀ i j, i < m → j < n → M i j = 0) : Rk m n M 0 := fun s => ⟨fun _ => Nat.zero_le s, fun _ => Ub.zero h⟩
theorem Clr.rk {m n m' r : Nat} {M M' : Mx} (c : Clr m n M m' M') (h : Rk m' n M' r) : Rk m n M (r + 1) := fun s => by
  cases s with
  | zero =>
    refine ⟨fun u => ?_, fun h => by omega⟩
    obtain ⟨p, q, hp, hq, h0, _⟩ := c.ex
    exact absurd (u.nil p q hp hq) h0
  | succ s => exact ⟨fun u => by have := (h s).mp (c.down u); omega, fun h' => c.up ((h s).mpr (by omega))⟩
theorem Rk.T {m n r : Nat} {M : Mx} (h : Rk m n M r) : Rk n m (fun i j => M j i) r := fun s => ⟨fun u => (h s).mp u.T, fun h' => ((h s).mpr h').T⟩
theorem Rk.rows {m m' n r : Nat} {M N : Mx} (h : Rk m n M r) (hN : ∀ i, i < m' → (∀ j, j < n → N i j = 0) ∨ ∃ i', i' < m ∧ ∀ j, j < n → N i j = M i' j) (hM : ∀ i, i < m → (∀ j, j < n → M i j = 0) ∨ ∃ i', i' < m' ∧ ∀ j, j < n → M i j = N i' j) : Rk m' n N r := fun s => ⟨fun u => (h s).mp (u.rows hM), fun h' => ((h s).mpr h').rows hN⟩
end LA
namespace LA
/-! ### how great a determinant is -/
theorem sm_abs {f : Nat → Int} {K : Nat} : ∀ {n : Nat}, (∀ i, i < n → (f i).natAbs ≤ K) → (sm n f).natAbs ≤ n * K
  | 0, _ => by show (0 : Int).natAbs ≤ 0 * K; omega
  | n + 1, h => by
    have a := sm_abs (f := f) (K := K) (n := n) fun i hi => h i (by omega)
    have b := h n (by omega)
    show (sm n f + f n).natAbs ≤ (n + 1) * K
    have c := Int.natAbs_add_le (sm n f) (f n)
    rw [Nat.succ_mul]; omega
theorem sg_abs (k : Nat) : (sg k).natAbs = 1 := by unfold sg; omega
theorem det_abs {e : Nat} : ∀ {n : Nat} {M : Mx}, n ≤ 8 → (∀ i j, i < n → j < n → (M i j).natAbs ≤ 2 ^ e) → (det n M).natAbs ≤ 2 ^ ((e + 3) * n)
  | 0, _, _, _ => by show (1 : Int).natAbs ≤ _; simp
  | n + 1, M, hn, h => by
    have t : (det (n + 1) M).natAbs ≤ (n + 1) * (2 ^ e * 2 ^ ((e + 3) * n)) := sm_abs fun k hk => by
      rw [Int.natAbs_mul, Int.natAbs_mul, sg_abs, Nat.one_mul]
      exact Nat.mul_le_mul (h 0 k (by omega) hk) (det_abs (by omega) fun i j hi hj => h _ _ (skp_le hi) (skp_le hj))
    refine Nat.le_trans t ?_
    have e1 : 2 ^ ((e + 3) * (n + 1)) = 8 * (2 ^ e * 2 ^ ((e + 3) * n)) := by
      rw [Nat.mul_succ, Nat.pow_add, Nat.pow_add]
      rw [Nat.mul_comm, Nat.mul_comm (2 ^ e) (2 ^ 3), Nat.mul_assoc]
    rw [e1]
    exact Nat.mul_le_mul_right _ (by omega)
/-! ### the rest of the rows, of minors -/
abbrev Row := List Int
def at0 (r : Row) (j : Nat) : Int := r.getD j 0
def mx (rows : List Row) : Mx := fun i j => at0 (rows.getD i []) j
def bord (k : Nat) (P : Mx) (C : Nat → Nat) (f : Nat → Row × Row) (g : Nat → Nat) : Mx := fun x y => (if x < k then P x else at0 (f (x - k)).1) (if y < k then C y else g (y - k))
structure Jn (e k : Nat) (b : Int) (Z : List (Row × Row)) : Prop where
  b0 : b ≠ 0
  ex : ∃ (P : Mx) (C : Nat → Nat), (∀ x y, x < k → (P x y).natAbs ≤ 2 ^ e) ∧ ∀ (m : Nat) (f : Nat → Row × Row), (∀ a, a < m → f a ∈ Z) → ∀ g : Nat → Nat, b * det m (fun x y => at0 (f x).2 (g y)) = b ^ m * det (k + m) (bord k P C f g)
  bd : ∀ z ∈ Z, ∀ j, (at0 z.1 j).natAbs ≤ 2 ^ e
theorem Jn.exact {e k : Nat} {b : Int} {Z : List (Row × Row)} (J : Jn e k b Z) {z0 z : Row × Row} (h0 : z0 ∈ Z) (h : z ∈ Z) (c j : Nat) : ∃ q, at0 z0.2 c * at0 z.2 j - at0 z.2 c * at0 z0.2 j = b * q := by
  obtain ⟨P, C, _, hj⟩ := J.ex
  have := hj 2 (fun a => if a = 0 then z0 else z) (fun a _ => by split <;> assumption) (fun a => if a = 0 then c else j)
  refine ⟨det (k + 2) (bord k P C (fun a => if a = 0 then z0 else z) fun a => if a = 0 then c else j), ?_⟩
  have d2 : det 2 (fun x y => at0 (if x = 0 then z0 else z).2 (if y = 0 then c else j)) = at0 z0.2 c * at0 z.2 j - at0 z.2 c * at0 z0.2 j := by
    simp [det, sm, sg, mnr, skp]
    grind
  rw [d2] at this
  have h2 : b * (at0 z0.2 c * at0 z.2 j - at0 z.2 c * at0 z0.2 j) = b * (b * det (k + 2) (bord k P C (fun a => if a = 0 then z0 else z) fun a => if a = 0 then c else j)) := by
    rw [this, show b ^ 2 = b * b from by rw [Int.pow_succ, Int.pow_succ, Int.pow_zero, Int.one_mul], Int.mul_assoc]
  exact Int.eq_of_mul_eq_mul_left J.b0 h2
theorem bord_abs {e k m : Nat} {P : Mx} {C : Nat → Nat} {f : Nat → Row × Row} {g : Nat → Nat} (hP : ∀ x y, x < k → (P x y).natAbs ≤ 2 ^ e) (hf : ∀ a, a < m → ∀ j, (at0 (f a).1 j).natAbs ≤ 2 ^ e) : ∀ i j, i < k + m → j < k + m → (bord k P C f g i j).natAbs ≤ 2 ^ e := fun i j hi hj => by
  unfold bord
  by_cases h : i < k
  · rw [if_pos h]; exact hP i _ h
  · rw [if_neg h]; exact hf _ (by omega) _
theorem Jn.entry {e k : Nat} {b : Int} {Z : List (Row × Row)} (J : Jn e k b Z) (hk : k + 1 ≤ 8) {z : Row × Row} (h : z ∈ Z) (j : Nat) : (at0 z.2 j).natAbs ≤ 2 ^ ((e + 3) * (k + 1)) := by
  obtain ⟨P, C, hP, hj⟩ := J.ex
  have := hj 1 (fun _ => z) (fun a _ => h) fun _ => j
  have d1 : det 1 (fun x y => at0 z.2 j) = at0 z.2 j := by simp [det, sm, sg]
  rw [d1, show b ^ 1 = b from by rw [Int.pow_succ, Int.pow_zero, Int.one_mul]] at this
  rw [Int.eq_of_mul_eq_mul_left J.b0 this]
  exact det_abs (by omega) (bord_abs hP fun a _ => J.bd z h)
theorem Jn.below {e k : Nat} {b : Int} {Z : List (Row × Row)} (J : Jn e k b Z) (hk : k ≤ 8) : b.natAbs ≤ 2 ^ ((e + 3) * k) := by
  obtain ⟨P, C, hP, hj⟩ := J.ex
  have := hj 0 (fun _ => ([], [])) (fun a h => absurd h (by omega)) fun _ => 0
  have d0 : det 0 (fun x y => at0 ([] : Row) 0) = 1 := rfl
  rw [d0, Int.mul_one, show b ^ 0 = 1 from Int.pow_zero b, Int.one_mul] at this
  rw [this]
  exact det_abs hk (bord_abs hP fun a h => absurd h (by omega))
theorem Jn.init {e : Nat} {rows : List Row} (h : ∀ r ∈ rows, ∀ j, (at0 r j).natAbs ≤ 2 ^ e) : Jn e 0 1 (rows.map fun r => (r, r)) := by
  refine ⟨by omega, ⟨fun _ _ => 0, fun _ => 0, fun x y h => absurd h (by omega), fun m f hf g => ?_⟩, fun z hz => ?_⟩
  · rw [Int.one_mul, Int.one_pow, Int.one_mul, Nat.zero_add]
    refine det_congr fun x y hx hy => ?_
    unfold bord
    rw [if_neg (by omega), if_neg (by omega)]
    obtain ⟨r, _, e⟩ := List.mem_map.mp (hf x hx)
    rw [Nat.sub_zero, Nat.sub_zero, ← e]
  · obtain ⟨r, hr, rfl⟩ := List.mem_map.mp hz
    exact h r hr
theorem Jn.step {e k : Nat} {b : Int} {Z Z' : List (Row × Row)} (J : Jn e k b Z) {z0 : Row × Row} (h0 : z0 ∈ Z) (c : Nat) (hp : at0 z0.2 c ≠ 0) (h : ∀ z' ∈ Z', ∃ z ∈ Z, z'.1 = z.1 ∧ ∀ j, b * at0 z'.2 j = at0 z0.2 c * at0 z.2 j - at0 z.2 c * at0 z0.2 j) : Jn e (k + 1) (at0 z0.2 c) Z' := by
  obtain ⟨P, C, hP, hj⟩ := J.ex
  refine ⟨hp, ⟨fun x => if x = k then at0 z0.1 else P x, fun y => if y = k then c else C y, fun x y hx => ?_, fun m f hf g => ?_⟩, fun z' hz' => ?_⟩
  · dsimp only
    by_cases h1 : x = k
    · rw [if_pos h1]; exact J.bd z0 h0 y
    · rw [if_neg h1]; exact hP x y (by omega)
  · have : ∀ a, ∃ z : Row × Row, a < m → z ∈ Z ∧ (f a).1 = z.1 ∧ ∀ j, b * at0 (f a).2 j = at0 z0.2 c * at0 z.2 j - at0 z.2 c * at0 z0.2 j := fun a => by
      by_cases ha : a < m
      · obtain ⟨z, h1, h2, h3⟩ := h _ (hf a ha)
        exact ⟨z, fun _ => ⟨h1, h2, h3⟩⟩
      · exact ⟨z0, fun h => absurd h ha⟩
    obtain ⟨F, hF⟩ := Classical.axiomOfChoice this
    have j1 := hj (m + 1) (fun a => if a = 0 then z0 else F (a - 1)) (fun a ha => by
      by_cases h1 : a = 0
      · rw [if_pos h1]; exact h0
      · rw [if_neg h1]; exact (hF _ (by omega)).1) (fun a => if a = 0 then c else g (a - 1))
    have ch := chio (m := m) fun x y => at0 (if x = 0 then z0 else F (x - 1)).2 (if y = 0 then c else g (y - 1))
    simp only [if_true, Nat.add_sub_cancel, if_neg (Nat.succ_ne_zero _)] at ch
    have e1 : det m (fun i j => at0 z0.2 c * at0 (F i).2 (g j) - at0 (F i).2 c * at0 z0.2 (g j)) = b ^ m * det m fun x y => at0 (f x).2 (g y) := by
      rw [← det_scale]
      exact det_congr fun i j hi _ => ((hF i hi).2.2 _).symm
    rw [e1] at ch
    have e2 : det (k + (m + 1)) (bord k P C (fun a => if a = 0 then z0 else F (a - 1)) fun a => if a = 0 then c else g (a - 1)) = det (k + 1 + m) (bord (k + 1) (fun x => if x = k then at0 z0.1 else P x) (fun y => if y = k then c else C y) f g) := by
      rw [show k + (m + 1) = k + 1 + m by omega]
      refine det_congr fun i j hi hj => ?_
      unfold bord
      have r : (if i < k then P i else at0 (if i - k = 0 then z0 else F (i - k - 1)).1) = if i < k + 1 then (if i = k then at0 z0.1 else P i) else at0 (f (i - (k + 1))).1 := by
        by_cases h1 : i < k
        · rw [if_pos h1, if_pos (by omega), if_neg (by omega)]
        · by_cases h2 : i = k
          · rw [if_neg h1, if_pos (by omega), if_pos (by omega), if_pos h2]
          · rw [if_neg h1, if_neg (by omega), if_neg (by omega), (hF _ (by omega)).2.1]
            rfl
      have s : (if j < k then C j else if j - k = 0 then c else g (j - k - 1)) = if j < k + 1 then (if j = k then c else C j) else g (j - (k + 1)) := by
        by_cases h1 : j < k
        · rw [if_pos h1, if_pos (by omega), if_neg (by omega)]
        · by_cases h2 : j = k
          · rw [if_neg h1, if_pos (by omega), if_pos (by omega), if_pos h2]
          · rw [if_neg h1, if_neg (by omega), if_neg (by omega)]
            rfl
      rw [r, s]
    rw [e2] at j1
    have hb : b ^ (m + 1) ≠ 0 := Int.pow_ne_zero J.b0
    have k1 : b ^ (m + 1) * (at0 z0.2 c * det m fun x y => at0 (f x).2 (g y)) = b ^ (m + 1) * (at0 z0.2 c ^ m * det (k + 1 + m) (bord (k + 1) (fun x => if x = k then at0 z0.1 else P x) (fun y => if y = k then c else C y) f g)) := by
      have p1 : b ^ (m + 1) = b ^ m * b := Int.pow_succ b m
      generalize det (k + 1 + m) (bord (k + 1) (fun x => if x = k then at0 z0.1 else P x) (fun y => if y = k then c else C y) f g) = D at *
      generalize det m (fun x y => at0 (f x).2 (g y)) = E at *
      generalize det (m + 1) (fun x y => at0 (if x = 0 then z0 else F (x - 1)).2 (if y = 0 then c else g (y - 1))) = G at *
      generalize b ^ m = bm at *
      generalize at0 z0.2 c ^ m = pm at *
      rw [p1] at j1 ⊢
      calc bm * b * (at0 z0.2 c * E) = b * (at0 z0.2 c * (bm * E)) := by grind
        _ = b * (pm * G) := by rw [ch]
        _ = pm * (b * G) := by grind
        _ = pm * (bm * b * D) := by rw [j1]
        _ = bm * b * (pm * D) := by grind
    exact Int.eq_of_mul_eq_mul_left hb k1
  · obtain ⟨z, h1, h2, _⟩ := h z' hz'
    rw [h2]; exact J.bd z h1
end LA
namespace LA
/-! ### the steps of the two eliminations, on lists of rows -/
def clr (r ch : Row) (c : Nat) (b : Int) : Row := List.zipWith (fun x y => (at0 ch c * x - at0 r c * y).fdiv b) r ch
theorem clr_len {r ch : Row} {n c : Nat} {b : Int} (h1 : r.length = n) (h2 : ch.length = n) : (clr r ch c b).length = n := by unfold clr; simp [h1, h2]
theorem at0_ge {r : Row} {j : Nat} (h : r.length ≤ j) : at0 r j = 0 := by unfold at0; rw [List.getD_eq_getElem?_getD, List.getElem?_eq_none h]; rfl
theorem at0_lt {r : Row} {j : Nat} (h : j < r.length) : at0 r j = r[j] := by unfold at0; rw [List.getD_eq_getElem?_getD, List.getElem?_eq_getElem h]; rfl
theorem clr_at {r ch : Row} {n c : Nat} {b : Int} (h1 : r.length = n) (h2 : ch.length = n) (j : Nat) : at0 (clr r ch c b) j = (at0 ch c * at0 r j - at0 r c * at0 ch j).fdiv b := by
  by_cases h : j < n
  · rw [at0_lt (by rw [clr_len h1 h2]; exact h), at0_lt (by omega : j < r.length), at0_lt (by omega : j < ch.length)]
    unfold clr
    rw [List.getElem_zipWith]
  · rw [at0_ge (by rw [clr_len h1 h2]; omega), at0_ge (r := r) (j := j) (by omega), at0_ge (r := ch) (j := j) (by omega), Int.mul_zero, Int.mul_zero, Int.sub_self, Int.zero_fdiv]
theorem mx_lt {rows : List Row} {i : Nat} (h : i < rows.length) (j : Nat) : mx rows i j = at0 rows[i] j := by unfold mx; rw [List.getD_eq_getElem?_getD, List.getElem?_eq_getElem h]; rfl
theorem mx_ge {rows : List Row} {i : Nat} (h : rows.length ≤ i) (j : Nat) : mx rows i j = 0 := by unfold mx; rw [List.getD_eq_getElem?_getD, List.getElem?_eq_none h]; rfl
structure Sb (n e k : Nat) (b : Int) (rest : List Row) : Prop where
  len : ∀ r ∈ rest, r.length = n
  ex : ∃ Z : List (Row × Row), Z.map Prod.snd = rest ∧ Jn e k b Z
theorem Sb.init {n e : Nat} {rows : List Row} (hl : ∀ r ∈ rows, r.length = n) (h : ∀ r ∈ rows, ∀ j, (at0 r j).natAbs ≤ 2 ^ e) : Sb n e 0 1 rows :=
  ⟨hl, _, by rw [List.map_map]; exact List.map_id' rows, Jn.init h⟩
theorem Sb.b0 {n e k : Nat} {b : Int} {rest : List Row} (S : Sb n e k b rest) : b ≠ 0 := by obtain ⟨_, _, J⟩ := S.ex; exact J.b0
theorem Sb.below {n e k : Nat} {b : Int} {rest : List Row} (S : Sb n e k b rest) (hk : k ≤ 8) : b.natAbs ≤ 2 ^ ((e + 3) * k) := by obtain ⟨_, _, J⟩ := S.ex; exact J.below hk
theorem Sb.entry {n e k : Nat} {b : Int} {rest : List Row} (S : Sb n e k b rest) (hk : k + 1 ≤ 8) {r : Row} (h : r ∈ rest) (j : Nat) : (at0 r j).natAbs ≤ 2 ^ ((e + 3) * (k + 1)) := by
  obtain ⟨Z, rfl, J⟩ := S.ex
  obtain ⟨z, hz, rfl⟩ := List.mem_map.mp h
  exact J.entry hk hz j
theorem Sb.rel {n e k : Nat} {b : Int} {rest : List Row} (S : Sb n e k b rest) {r ch : Row} (hr : r ∈ rest) (hc : ch ∈ rest) (c j : Nat) : b * at0 (clr r ch c b) j = at0 ch c * at0 r j - at0 r c * at0 ch j := by
  rw [clr_at (S.len r hr) (S.len ch hc)]
  obtain ⟨Z, rfl, J⟩ := S.ex
  obtain ⟨z, hz, rfl⟩ := List.mem_map.mp hr
  obtain ⟨z0, hz0, rfl⟩ := List.mem_map.mp hc
  obtain ⟨q, hq⟩ := J.exact hz0 hz c j
  rw [hq, Int.mul_fdiv_cancel_left q J.b0]
theorem map_erase {α β : Type} (f : α → β) : ∀ (xs : List α) (p : Nat), (xs.map f).eraseIdx p = (xs.eraseIdx p).map f
  | [], _ => rfl
  | _ :: _, 0 => rfl
  | x :: r, p + 1 => congrArg (f x :: ·) (map_erase f r p)
theorem Sb.step {n e k : Nat} {b : Int} {rest : List Row} (S : Sb n e k b rest) {p c : Nat} (hp : p < rest.length) (h0 : at0 rest[p] c ≠ 0) : Sb n e (k + 1) (at0 rest[p] c) ((rest.eraseIdx p).map fun r => clr r rest[p] c b) := by
  refine ⟨fun r hr => ?_, ?_⟩
  · obtain ⟨r0, h1, rfl⟩ := List.mem_map.mp hr
    exact clr_len (S.len r0 (List.mem_of_mem_eraseIdx h1)) (S.len _ (List.getElem_mem hp))
  · have rl := fun r hr => S.rel (r := r) hr (List.getElem_mem hp) c
    obtain ⟨Z, e1, J⟩ := S.ex
    have hpZ : p < Z.length := by rw [← e1, List.length_map] at hp; exact hp
    have ep : rest[p] = Z[p].2 := by subst e1; rw [List.getElem_map]
    refine ⟨(Z.eraseIdx p).map fun z => (z.1, clr z.2 rest[p] c b), ?_, ?_⟩
    · generalize rest[p] = ch
      subst e1
      rw [List.map_map, map_erase, List.map_map]
      rfl
    · rw [ep]
      refine J.step (z0 := Z[p]) (List.getElem_mem hpZ) c (by rw [← ep]; exact h0) fun z' hz' => ?_
      obtain ⟨z, h1, rfl⟩ := List.mem_map.mp hz'
      have h2 := List.mem_of_mem_eraseIdx h1
      refine ⟨z, h2, rfl, fun j => ?_⟩
      have := rl z.2 (by rw [← e1]; exact List.mem_map_of_mem h2) j
      rw [ep] at this
      exact this
theorem erase_at {α : Type} {xs : List α} {p i : Nat} (hi : i < (xs.eraseIdx p).length) (hi' : skp p i < xs.length) : (xs.eraseIdx p)[i] = xs[skp p i] := by
  rw [List.getElem_eraseIdx]
  unfold skp
  split <;> rfl
theorem erase_len {α : Type} {xs : List α} {p : Nat} (hp : p < xs.length) : (xs.eraseIdx p).length = xs.length - 1 := by rw [List.length_eraseIdx_of_lt hp]
theorem next_at {n e k : Nat} {b : Int} {rest : List Row} (S : Sb n e k b rest) {p c : Nat} (hp : p < rest.length) {i : Nat} (hi : i < rest.length - 1) (j : Nat) :
    b * mx ((rest.eraseIdx p).map fun r => clr r rest[p] c b) i j = mx rest p c * mx rest (skp p i) j - mx rest (skp p i) c * mx rest p j := by
  have hl : i < (rest.eraseIdx p).length := by rw [erase_len hp]; exact hi
  have hs : skp p i < rest.length := by unfold skp; split <;> omega
  rw [mx_lt (by rw [List.length_map]; exact hl), List.getElem_map, mx_lt hp, mx_lt hs, mx_lt hs, mx_lt hp, erase_at hl hs]
  exact S.rel (List.getElem_mem hs) (List.getElem_mem hp) c j
/-- the rank -/
theorem Sb.clr {n e k : Nat} {b : Int} {rest : List Row} (S : Sb n e k b rest) {p c : Nat} (hc : c < n) (hp : p < rest.length) (h0 : at0 rest[p] c ≠ 0) : Clr rest.length n (mx rest) (rest.length - 1) (mx ((rest.eraseIdx p).map fun r => clr r rest[p] c b)) := by
  refine ⟨p, c, hp, hc, by rw [mx_lt hp]; exact h0, b, S.b0, fun i hi => ⟨skp p i, by unfold skp; split <;> omega, fun j _ => next_at S hp hi j⟩, fun i' hi' => ?_⟩
  by_cases h : i' = p
  · exact .inl h
  · refine .inr ⟨if i' < p then i' else i' - 1, by split <;> omega, fun j _ => ?_⟩
    have e1 : skp p (if i' < p then i' else i' - 1) = i' := by
      unfold skp
      by_cases h2 : i' < p
      · rw [if_pos h2, if_pos h2]
      · rw [if_neg h2, if_neg (by omega)]; omega
    have := next_at S (c := c) hp (i := if i' < p then i' else i' - 1) (by split <;> omega) j
    rw [e1] at this
    exact this
/-- the determinant: what is known while the columns are walked -/
structure Dt (n k : Nat) (M : Mx) (b s : Int) (rest : List Row) : Prop where
  len : k + rest.length = n
  s1 : s = 1 ∨ s = -1
  eq : b * s * det rest.length (fun x y => mx rest x (k + y)) = b ^ rest.length * det n M
theorem Dt.init (rows : List Row) : Dt rows.length 0 (mx rows) 1 1 rows := ⟨by omega, .inl rfl, by
  rw [Int.one_mul, Int.one_mul, Int.one_pow, Int.one_mul]
  exact det_congr fun i j _ _ => by rw [Nat.zero_add]⟩
theorem sg_even (p : Nat) : sg p = if p % 2 = 0 then 1 else -1 := by unfold sg; split <;> omega
theorem Dt.step {n e k : Nat} {M : Mx} {b s : Int} {rest : List Row} (D : Dt n k M b s rest) (S : Sb n e k b rest) {p : Nat} (hp : p < rest.length) (h0 : at0 rest[p] k ≠ 0) :
    Dt n (k + 1) M (at0 rest[p] k) (if p % 2 = 0 then s else -s) ((rest.eraseIdx p).map fun r => clr r rest[p] k b) := by
  have hl : ((rest.eraseIdx p).map fun r => clr r rest[p] k b).length = rest.length - 1 := by rw [List.length_map, erase_len hp]
  have hs : (if p % 2 = 0 then s else -s) = s * sg p := by rw [sg_even]; split <;> omega
  refine ⟨by rw [hl]; have := D.len; omega, by rcases D.s1 with h | h <;> split <;> omega, ?_⟩
  rw [hl, hs]
  obtain ⟨m, hm⟩ : ∃ m, rest.length = m + 1 := ⟨rest.length - 1, by omega⟩
  have hd := D.eq
  rw [hm] at hd ⊢
  rw [Nat.add_sub_cancel]
  have fr := det_front (n := m + 1) p (fun x y => mx rest x (k + y)) (by omega)
  have ch := chio (m := m) fun x y => mx rest (fro p x) (k + y)
  have f0 : fro p 0 = p := rfl
  have fs : ∀ i, fro p (i + 1) = skp p i := fun i => by unfold fro skp; simp
  simp only [f0, fs, Nat.add_zero] at ch
  have e1 : det m (fun i j => mx rest p k * mx rest (skp p i) (k + (j + 1)) - mx rest (skp p i) k * mx rest p (k + (j + 1))) = b ^ m * det m fun x y => mx ((rest.eraseIdx p).map fun r => clr r rest[p] k b) x (k + 1 + y) := by
    rw [← det_scale]
    refine det_congr fun i j hi _ => ?_
    rw [next_at S hp (by omega), show k + 1 + j = k + (j + 1) by omega]
  rw [e1, mx_lt hp] at ch
  rw [fr] at ch
  have hb : b ^ (m + 1) ≠ 0 := Int.pow_ne_zero S.b0
  have sq : sg p * sg p = 1 := by unfold sg; rcases Nat.mod_two_eq_zero_or_one p with h | h <;> rw [h] <;> decide
  have p1 : b ^ (m + 1) = b ^ m * b := Int.pow_succ b m
  refine Int.eq_of_mul_eq_mul_left hb ?_
  generalize det m (fun x y => mx ((rest.eraseIdx p).map fun r => clr r rest[p] k b) x (k + 1 + y)) = E at *
  generalize det (m + 1) (fun x y => mx rest x (k + y)) = G at *
  generalize det n M = DM at *
  rw [p1] at hd ⊢
  generalize b ^ m = bm at *
  generalize at0 rest[p] k ^ m = pm at *
  generalize at0 rest[p] k = pv at *
  generalize sg p = g at *
  calc bm * b * (pv * (s * g) * E) = b * s * g * (pv * (bm * E)) := by grind
    _ = b * s * g * (pm * (g * G)) := by rw [ch]
    _ = pm * (g * g) * (b * s * G) := by grind
    _ = pm * (g * g) * (bm * b * DM) := by rw [hd]
    _ = bm * b * (pm * DM) := by rw [sq]; grind
theorem Dt.none {n e k : Nat} {M : Mx} {b s : Int} {rest : List Row} (D : Dt n k M b s rest) (S : Sb n e k b rest) (hk : k < n) (h : ∀ r ∈ rest, at0 r k = 0) : det n M = 0 := by
  have hd := D.eq
  obtain ⟨m, hm⟩ : ∃ m, rest.length = m + 1 := ⟨rest.length - 1, by have := D.len; omega⟩
  rw [hm, det_col, sm_zero fun i hi => by rw [Nat.add_zero, mx_lt (by omega), h _ (List.getElem_mem _), Int.mul_zero, Int.zero_mul], Int.mul_zero] at hd
  rcases Int.mul_eq_zero.mp hd.symm with h | h
  · exact absurd h (Int.pow_ne_zero S.b0)
  · exact h
theorem Dt.done {n : Nat} {M : Mx} {b s : Int} {rest : List Row} (D : Dt n n M b s rest) : s * b = det n M := by
  have hl : rest.length = 0 := by have := D.len; omega
  have hd := D.eq
  rw [hl] at hd
  rw [Int.mul_comm]
  have : b * s * 1 = b ^ 0 * det n M := hd
  rw [Int.mul_one, Int.pow_zero, Int.one_mul] at this
  exact this
end LA
namespace LA
/-! ### full rank and the determinant -/
theorem Ub.tail {m n s : Nat} {M : Mx} (h : Ub m (n + 1) M s) : Ub m n (fun i j => M i (j + 1)) s := by
  obtain ⟨C, hC, A, B, e⟩ := h
  exact ⟨C, hC, A, fun k j => B k (j + 1), fun i j hi hj => e i (j + 1) hi (by omega)⟩
theorem Ub.untail {m n s : Nat} {M : Mx} (z : ∀ i, i < m → M i 0 = 0) (h : Ub m n (fun i j => M i (j + 1)) s) : Ub m (n + 1) M s := by
  obtain ⟨C, hC, A, B, e⟩ := h
  refine ⟨C, hC, A, fun k j => if j = 0 then 0 else B k (j - 1), fun i j hi hj => ?_⟩
  by_cases h0 : j = 0
  · subst h0
    rw [z i hi, sm_zero fun k _ => by show A i k * 0 = 0; rw [Int.mul_zero]]
    omega
  · have e2 : C * M i (j - 1 + 1) = sm s fun k => A i k * B k (j - 1) := e i (j - 1) hi (by omega)
    rw [show j - 1 + 1 = j by omega] at e2
    rw [e2]
    exact sm_congr fun k _ => by show _ = A i k * (if j = 0 then 0 else B k (j - 1)); rw [if_neg h0]
theorem Ub.wide {m n : Nat} (M : Mx) : Ub m n M n := ⟨1, by omega, M, fun k j => if k = j then 1 else 0, fun i j hi hj => by
  rw [sm_one (r := j) hj fun k hk hkj => by show M i k * (if k = j then 1 else 0) = 0; rw [if_neg hkj, Int.mul_zero]]
  show 1 * M i j = M i j * (if j = j then 1 else 0)
  rw [if_pos rfl]; omega⟩
theorem full_det : ∀ (n : Nat) (M : Mx) (k : Nat), Rk n n M k → (k = n ↔ det n M ≠ 0)
  | 0, M, k, h => by
    have : k = 0 := by
      have := (h 0).mp (Ub.wide M); omega
    exact ⟨fun _ => by show (1 : Int) ≠ 0; omega, fun _ => this⟩
  | n + 1, M, k, h => by
    by_cases z : ∀ i, i < n + 1 → M i 0 = 0
    · have d0 : det (n + 1) M = 0 := by rw [det_col, sm_zero fun i hi => by rw [z i hi, Int.mul_zero, Int.zero_mul]]
      have u : Ub (n + 1) (n + 1) M n := Ub.untail z (Ub.wide _)
      have := (h n).mp u
      rw [d0]
      exact ⟨fun h => by omega, fun h => absurd rfl h⟩
    · obtain ⟨p, hp, h0⟩ : ∃ p, p < n + 1 ∧ M p 0 ≠ 0 := Classical.byContradiction fun hn => z fun i hi => Classical.byContradiction fun h => hn ⟨i, hi, h⟩
      let N : Mx := fun i j => M p 0 * M (skp p i) j - M (skp p i) 0 * M p j
      have c : Clr (n + 1) (n + 1) M n N := by
        refine ⟨p, 0, hp, by omega, h0, 1, by omega, fun i hi => ⟨skp p i, skp_le hi, fun j _ => Int.one_mul _⟩, fun i' hi' => ?_⟩
        by_cases hh : i' = p
        · exact .inl hh
        · refine .inr ⟨if i' < p then i' else i' - 1, by split <;> omega, fun j _ => ?_⟩
          have e1 : skp p (if i' < p then i' else i' - 1) = i' := by
            unfold skp
            by_cases h2 : i' < p
            · rw [if_pos h2, if_pos h2]
            · rw [if_neg h2, if_neg (by omega)]; omega
          show 1 * (M p 0 * M (skp p (if i' < p then i' else i' - 1)) j - M (skp p (if i' < p then i' else i' - 1)) 0 * M p j) = _
          rw [e1, Int.one_mul]
      have hk : 1 ≤ k := by
        refine Classical.byContradiction fun hk => ?_
        have : k = 0 := by omega
        exact h0 (((h 0).mpr (by omega)).nil p 0 hp (by omega))
      have nz : ∀ i, i < n → N i 0 = 0 := fun i _ => by show M p 0 * M (skp p i) 0 - M (skp p i) 0 * M p 0 = 0; grind
      have hN : Rk n n (fun i j => N i (j + 1)) (k - 1) := fun s => by
        constructor
        · intro u
          have := (h (s + 1)).mp (c.up (Ub.untail nz u)); omega
        · intro hs
          exact (c.down ((h (s + 1)).mpr (by omega))).tail
      have ih := full_det n _ _ hN
      have fr := det_front (n := n + 1) p M hp
      have ch := chio (m := n) fun x y => M (fro p x) y
      have f0 : fro p 0 = p := rfl
      have fs : ∀ i, fro p (i + 1) = skp p i := fun i => by unfold fro skp; simp
      simp only [f0, fs] at ch
      rw [fr] at ch
      have ne : M p 0 ^ n ≠ 0 := Int.pow_ne_zero h0
      have sn : sg p ≠ 0 := by unfold sg; omega
      have e1 : det n (fun i j => N i (j + 1)) = 0 ↔ det (n + 1) M = 0 := by
        constructor
        · intro z
          have z' : M p 0 * det n (fun i j => M p 0 * M (skp p i) (j + 1) - M (skp p i) 0 * M p (j + 1)) = 0 := by
            have : det n (fun i j => M p 0 * M (skp p i) (j + 1) - M (skp p i) 0 * M p (j + 1)) = 0 := z
            rw [this, Int.mul_zero]
          rw [ch] at z'
          exact ((Int.mul_eq_zero.mp z').resolve_left ne |> Int.mul_eq_zero.mp).resolve_left sn
        · intro z
          rw [z, Int.mul_zero, Int.mul_zero] at ch
          exact (Int.mul_eq_zero.mp ch).resolve_left h0
      constructor
      · intro hk2
        have := ih.mp (by omega)
        exact fun hd => this (e1.mpr hd)
      · intro hd
        have := ih.mpr fun z => hd (e1.mp z)
        omega
end LA
namespace NS
open PySem L2
structure BagOk (k : Nat) (b : List D) : Prop where
  ex : ∃ (cs : List Int) (i r m n : Int), b = [.lst (cs.map D.int), .int i, .int r, .int m, .int n] ∧ 0 ≤ i ∧ 0 ≤ r ∧ 0 ≤ m ∧ m < 2 ^ 40 ∧ 0 ≤ n ∧ n ≤ k
theorem BagOk.mono {k l : Nat} {b : List D} (h : BagOk k b) (hl : k ≤ l) : BagOk l b := by
  obtain ⟨cs, i, r, m, n, rfl, h2, h3, h4, h5, h6, h7⟩ := h.ex
  exact ⟨cs, i, r, m, n, rfl, h2, h3, h4, h5, h6, by omega⟩
theorem draw_tail {k : Nat} {s : Int} (hk : k < 2 ^ 40) (hs : 0 < s) (hs2 : s < 2 ^ 64) (cs : List D) (i r m n : Int) (o : Option T) (cs' : List Int) (ec : cs = cs'.map D.int) (h2 : 0 ≤ i) (h3 : 0 ≤ r) (h4 : 0 ≤ m) (h5 : m < 2 ^ 40) (h6 : 0 ≤ n) (h7 : n ≤ k) :
    ∃ b' r2 e2, (mSeq q__law_draw_2 (mSeq q__law_draw_3 q__law_draw_4)) [some (.l [.lst cs, .int i, .int r, .int m, .int n]), some (.d (.int s)), o, none] = .ok (.rt (.d (.int r2))) e2 ∧ e2[0]? = some (some (.l b')) ∧ BagOk k b' ∧ 0 ≤ r2 ∧ r2 < s := by
  unfold q__law_draw_2 q__law_draw_3 q__law_draw_4
  by_cases hr : 0 < r
  · simp (disch := omega) only [p_stepC, p_stepF, p_seq, p_asg, p_drop, p_ret, p_pass, p_break, p_cont, p_ifs, p_if, p_de, p_ed, p_eo, p_do, p_use, p_move, p_pk, p_c, p_op2, p_op1, p_b, p_andT, p_orT, p_notT, p_tru, p_andV, p_orV, p_notV, p_aug, p_par, p_lst, p_tup, p_upd, p_isN, p_notN, p_isi, p_sl, p_inone, p_isome, p_cb, p_call, p_callk, p_anil, p_acons, p_dnil, p_dcons, p_enil, p_econs, p_yes, p_gn, p_gnil, p_gcons, p_gtup, p_gsub, p_cres, n_crT, n_cr2, takeOps, putOps, isOwnL, n_f1, atAll, Op.at, Rs.map_ok, n_bind, n_ap1, n_ap2, n_apL, Rs.bind_exc, Rs.bind_bad, n_of, Rs.of_none, Option.bind_some, Option.bind_none, Option.join_some, Option.map_some,
  List.getElem?_cons_zero, List.getElem?_cons_succ, List.getElem?_nil, List.set_cons_zero, List.set_cons_succ, List.length_cons, List.length_nil, T.toD, bl?_d, Nat.zero_lt_succ, Nat.succ_lt_succ_iff, if_true, if_false, reduceIte, reduceCtorEq, List.map_cons, List.map_nil, List.cons_append, List.nil_append, List.replicate_succ, List.replicate_zero, Nat.reduceAdd, Nat.reduceSub, Nat.reduceLT, Nat.reduceLeDiff, Nat.reduceEqDiff, bAdd_ii, bSub_ii, bMul_small, bMod_pos, bFdiv_pos, bPow_small, Int.reduceToNat, Int.reducePow, decide_eq_true_eq, decide_true, decide_false, bLt_ii, bGe_ii, bGt_ii, bLe_ii, bEq_ii, bNe_ii, bInt_i, bLen_l, bLen_d, bLen_ro, bLen_t, bList_l, bList_d, bList_ro, bList_t, bTuple_l, bTuple_d, bTuple_t, uAppend_one, uInsert_one, uPopAt_one, outs, aHas, aNo, aOne, aOr, bIx_l, bIx_d, bIx_t, bIx_ro, bTru, atI_lit, ixN_lit, bSl_l, bSl_d, bSl_ro, isi_l, isi_d, isi_t, isi_i, isi_b, isi_s, isi_n, Rs.env_ok, fSeq_l, fSeq_d, fSeq_ro, fSeq_t, fZip_ll, fZip_ld, fZip_dl, fZip_dd, fZip_tt, fEnum_l, fEnum_d, bIsN_of, bNotN_of, isNon_i, isNon_b, isNon_s, isNon_l, isNon_t, isNon_n, Tn.any, Tn.sub, eq_self, Bool.or_self, Bool.and_self, Bool.or_false, ne_eq, not_true, not_false_eq_true, and_self, and_true, true_and, opsFree, List.all_cons, List.all_nil, bEq_bb, bEq_ss, bNe_bb, bNe_ss, Bool.and_true, Bool.not_true, Bool.not_false, Bool.false_eq_true, List.any_cons, List.any_nil, Nat.reduceBEq, Bool.or_false, Bool.or_true, Bool.false_or, Bool.true_and, Bool.false_and, wipeE, unwipeE, hr]
    refine ⟨_, _, _, rfl, rfl, ⟨cs', i, r / s, m, n, by rw [ec], h2, Int.ediv_nonneg h3 (by omega), h4, h5, h6, h7⟩, Int.emod_nonneg _ (by omega), Int.emod_lt_of_pos _ hs⟩
  · simp (disch := omega) only [p_stepC, p_stepF, p_seq, p_asg, p_drop, p_ret, p_pass, p_break, p_cont, p_ifs, p_if, p_de, p_ed, p_eo, p_do, p_use, p_move, p_pk, p_c, p_op2, p_op1, p_b, p_andT, p_orT, p_notT, p_tru, p_andV, p_orV, p_notV, p_aug, p_par, p_lst, p_tup, p_upd, p_isN, p_notN, p_isi, p_sl, p_inone, p_isome, p_cb, p_call, p_callk, p_anil, p_acons, p_dnil, p_dcons, p_enil, p_econs, p_yes, p_gn, p_gnil, p_gcons, p_gtup, p_gsub, p_cres, n_crT, n_cr2, takeOps, putOps, isOwnL, n_f1, atAll, Op.at, Rs.map_ok, n_bind, n_ap1, n_ap2, n_apL, Rs.bind_exc, Rs.bind_bad, n_of, Rs.of_none, Option.bind_some, Option.bind_none, Option.join_some, Option.map_some,
  List.getElem?_cons_zero, List.getElem?_cons_succ, List.getElem?_nil, List.set_cons_zero, List.set_cons_succ, List.length_cons, List.length_nil, T.toD, bl?_d, Nat.zero_lt_succ, Nat.succ_lt_succ_iff, if_true, if_false, reduceIte, reduceCtorEq, List.map_cons, List.map_nil, List.cons_append, List.nil_append, List.replicate_succ, List.replicate_zero, Nat.reduceAdd, Nat.reduceSub, Nat.reduceLT, Nat.reduceLeDiff, Nat.reduceEqDiff, bAdd_ii, bSub_ii, bMul_small, bMod_pos, bFdiv_pos, bPow_small, Int.reduceToNat, Int.reducePow, decide_eq_true_eq, decide_true, decide_false, bLt_ii, bGe_ii, bGt_ii, bLe_ii, bEq_ii, bNe_ii, bInt_i, bLen_l, bLen_d, bLen_ro, bLen_t, bList_l, bList_d, bList_ro, bList_t, bTuple_l, bTuple_d, bTuple_t, uAppend_one, uInsert_one, uPopAt_one, outs, aHas, aNo, aOne, aOr, bIx_l, bIx_d, bIx_t, bIx_ro, bTru, atI_lit, ixN_lit, bSl_l, bSl_d, bSl_ro, isi_l, isi_d, isi_t, isi_i, isi_b, isi_s, isi_n, Rs.env_ok, fSeq_l, fSeq_d, fSeq_ro, fSeq_t, fZip_ll, fZip_ld, fZip_dl, fZip_dd, fZip_tt, fEnum_l, fEnum_d, bIsN_of, bNotN_of, isNon_i, isNon_b, isNon_s, isNon_l, isNon_t, isNon_n, Tn.any, Tn.sub, eq_self, Bool.or_self, Bool.and_self, Bool.or_false, ne_eq, not_true, not_false_eq_true, and_self, and_true, true_and, opsFree, List.all_cons, List.all_nil, bEq_bb, bEq_ss, bNe_bb, bNe_ss, Bool.and_true, Bool.not_true, Bool.not_false, Bool.false_eq_true, List.any_cons, List.any_nil, Nat.reduceBEq, Bool.or_false, Bool.or_true, Bool.false_or, Bool.true_and, Bool.false_and, wipeE, unwipeE, hr]
    refine ⟨_, _, _, rfl, rfl, ⟨cs', i, r, _, n, by rw [ec], h2, h3, ?_, ?_, h6, h7⟩, Int.emod_nonneg _ (by omega), Int.emod_lt_of_pos _ hs⟩ <;> omega
theorem draw_ok {k : Nat} {b : List D} {s : Int} (h : BagOk k b) (hk : k < 2 ^ 39) (hs : 0 < s) (hs2 : s < 2 ^ 64) : ∃ b' r, m__law_draw [.l b, .d (.int s)] = .ok (.d (.int r)) [some (.l b'), some (.d (.int s))] ∧ BagOk (k + 1) b' ∧ 0 ≤ r ∧ r < s := by
  obtain ⟨cs, i, r, m, n, rfl, h2, h3, h4, h5, h6, h7⟩ := h.ex
  obtain ⟨i', r', m', o, e1, g2, g3, g4, g5⟩ : ∃ i' r' m' o, (mSeq q__law_draw_0 (mSeq q__law_draw_1 mNx)) [some (.l [.lst (cs.map D.int), .int i, .int r, .int m, .int n]), some (.d (.int s)), none, none] = .ok .nx [some (.l [.lst (cs.map D.int), .int i', .int r', .int m', .int (n + 1)]), some (.d (.int s)), o, none] ∧ 0 ≤ i' ∧ 0 ≤ r' ∧ 0 ≤ m' ∧ m' < 2 ^ 40 := by
    unfold q__law_draw_0 q__law_draw_1
    by_cases hr : r = 0
    · by_cases hi : i < ((cs.map D.int).length : Int)
      · have hi' : i.toNat < cs.length := by rw [List.length_map] at hi; omega
        have e : atI (cs.map D.int) i = some (.int cs[i.toNat]) := by rw [atI_pos h2, List.getElem?_map, List.getElem?_eq_getElem hi']; rfl
        by_cases hc : 10 ^ 18 ≤ cs[i.toNat]
        · have hc' : 1000000000000000000 ≤ cs[i.toNat] := hc
          simp (disch := omega) only [p_stepC, p_stepF, p_seq, p_asg, p_drop, p_ret, p_pass, p_break, p_cont, p_ifs, p_if, p_de, p_ed, p_eo, p_do, p_use, p_move, p_pk, p_c, p_op2, p_op1, p_b, p_andT, p_orT, p_notT, p_tru, p_andV, p_orV, p_notV, p_aug, p_par, p_lst, p_tup, p_upd, p_isN, p_notN, p_isi, p_sl, p_inone, p_isome, p_cb, p_call, p_callk, p_anil, p_acons, p_dnil, p_dcons, p_enil, p_econs, p_yes, p_gn, p_gnil, p_gcons, p_gtup, p_gsub, p_cres, n_crT, n_cr2, takeOps, putOps, isOwnL, n_f1, atAll, Op.at, Rs.map_ok, n_bind, n_ap1, n_ap2, n_apL, Rs.bind_exc, Rs.bind_bad, n_of, Rs.of_none, Option.bind_some, Option.bind_none, Option.join_some, Option.map_some,
  List.getElem?_cons_zero, List.getElem?_cons_succ, List.getElem?_nil, List.set_cons_zero, List.set_cons_succ, List.length_cons, List.length_nil, T.toD, bl?_d, Nat.zero_lt_succ, Nat.succ_lt_succ_iff, if_true, if_false, reduceIte, reduceCtorEq, List.map_cons, List.map_nil, List.cons_append, List.nil_append, List.replicate_succ, List.replicate_zero, Nat.reduceAdd, Nat.reduceSub, Nat.reduceLT, Nat.reduceLeDiff, Nat.reduceEqDiff, bAdd_ii, bSub_ii, bMul_small, bMod_pos, bFdiv_pos, bPow_small, Int.reduceToNat, Int.reducePow, decide_eq_true_eq, decide_true, decide_false, bLt_ii, bGe_ii, bGt_ii, bLe_ii, bEq_ii, bNe_ii, bInt_i, bLen_l, bLen_d, bLen_ro, bLen_t, bList_l, bList_d, bList_ro, bList_t, bTuple_l, bTuple_d, bTuple_t, uAppend_one, uInsert_one, uPopAt_one, outs, aHas, aNo, aOne, aOr, bIx_l, bIx_d, bIx_t, bIx_ro, bTru, atI_lit, ixN_lit, bSl_l, bSl_d, bSl_ro, isi_l, isi_d, isi_t, isi_i, isi_b, isi_s, isi_n, Rs.env_ok, fSeq_l, fSeq_d, fSeq_ro, fSeq_t, fZip_ll, fZip_ld, fZip_dl, fZip_dd, fZip_tt, fEnum_l, fEnum_d, bIsN_of, bNotN_of, isNon_i, isNon_b, isNon_s, isNon_l, isNon_t, isNon_n, Tn.any, Tn.sub, eq_self, Bool.or_self, Bool.and_self, Bool.or_false, ne_eq, not_true, not_false_eq_true, and_self, and_true, true_and, opsFree, List.all_cons, List.all_nil, bEq_bb, bEq_ss, bNe_bb, bNe_ss, Bool.and_true, Bool.not_true, Bool.not_false, Bool.false_eq_true, List.any_cons, List.any_nil, Nat.reduceBEq, Bool.or_false, Bool.or_true, Bool.false_or, Bool.true_and, Bool.false_and, wipeE, unwipeE, hr, hi, e, hc']
          exact ⟨i + 1, _, m, _, rfl, by omega, by omega, h4, h5⟩
        · have hc' : ¬ 1000000000000000000 ≤ cs[i.toNat] := hc
          simp (disch := omega) only [p_stepC, p_stepF, p_seq, p_asg, p_drop, p_ret, p_pass, p_break, p_cont, p_ifs, p_if, p_de, p_ed, p_eo, p_do, p_use, p_move, p_pk, p_c, p_op2, p_op1, p_b, p_andT, p_orT, p_notT, p_tru, p_andV, p_orV, p_notV, p_aug, p_par, p_lst, p_tup, p_upd, p_isN, p_notN, p_isi, p_sl, p_inone, p_isome, p_cb, p_call, p_callk, p_anil, p_acons, p_dnil, p_dcons, p_enil, p_econs, p_yes, p_gn, p_gnil, p_gcons, p_gtup, p_gsub, p_cres, n_crT, n_cr2, takeOps, putOps, isOwnL, n_f1, atAll, Op.at, Rs.map_ok, n_bind, n_ap1, n_ap2, n_apL, Rs.bind_exc, Rs.bind_bad, n_of, Rs.of_none, Option.bind_some, Option.bind_none, Option.join_some, Option.map_some,
  List.getElem?_cons_zero, List.getElem?_cons_succ, List.getElem?_nil, List.set_cons_zero, List.set_cons_succ, List.length_cons, List.length_nil, T.toD, bl?_d, Nat.zero_lt_succ, Nat.succ_lt_succ_iff, if_true, if_false, reduceIte, reduceCtorEq, List.map_cons, List.map_nil, List.cons_append, List.nil_append, List.replicate_succ, List.replicate_zero, Nat.reduceAdd, Nat.reduceSub, Nat.reduceLT, Nat.reduceLeDiff, Nat.reduceEqDiff, bAdd_ii, bSub_ii, bMul_small, bMod_pos, bFdiv_pos, bPow_small, Int.reduceToNat, Int.reducePow, decide_eq_true_eq, decide_true, decide_false, bLt_ii, bGe_ii, bGt_ii, bLe_ii, bEq_ii, bNe_ii, bInt_i, bLen_l, bLen_d, bLen_ro, bLen_t, bList_l, bList_d, bList_ro, bList_t, bTuple_l, bTuple_d, bTuple_t, uAppend_one, uInsert_one, uPopAt_one, outs, aHas, aNo, aOne, aOr, bIx_l, bIx_d, bIx_t, bIx_ro, bTru, atI_lit, ixN_lit, bSl_l, bSl_d, bSl_ro, isi_l, isi_d, isi_t, isi_i, isi_b, isi_s, isi_n, Rs.env_ok, fSeq_l, fSeq_d, fSeq_ro, fSeq_t, fZip_ll, fZip_ld, fZip_dl, fZip_dd, fZip_tt, fEnum_l, fEnum_d, bIsN_of, bNotN_of, isNon_i, isNon_b, isNon_s, isNon_l, isNon_t, isNon_n, Tn.any, Tn.sub, eq_self, Bool.or_self, Bool.and_self, Bool.or_false, ne_eq, not_true, not_false_eq_true, and_self, and_true, true_and, opsFree, List.all_cons, List.all_nil, bEq_bb, bEq_ss, bNe_bb, bNe_ss, Bool.and_true, Bool.not_true, Bool.not_false, Bool.false_eq_true, List.any_cons, List.any_nil, Nat.reduceBEq, Bool.or_false, Bool.or_true, Bool.false_or, Bool.true_and, Bool.false_and, wipeE, unwipeE, hr, hi, e, hc']
          exact ⟨i + 1, 0, _, _, rfl, by omega, by omega, by omega, by omega⟩
      · simp (disch := omega) only [p_stepC, p_stepF, p_seq, p_asg, p_drop, p_ret, p_pass, p_break, p_cont, p_ifs, p_if, p_de, p_ed, p_eo, p_do, p_use, p_move, p_pk, p_c, p_op2, p_op1, p_b, p_andT, p_orT, p_notT, p_tru, p_andV, p_orV, p_notV, p_aug, p_par, p_lst, p_tup, p_upd, p_isN, p_notN, p_isi, p_sl, p_inone, p_isome, p_cb, p_call, p_callk, p_anil, p_acons, p_dnil, p_dcons, p_enil, p_econs, p_yes, p_gn, p_gnil, p_gcons, p_gtup, p_gsub, p_cres, n_crT, n_cr2, takeOps, putOps, isOwnL, n_f1, atAll, Op.at, Rs.map_ok, n_bind, n_ap1, n_ap2, n_apL, Rs.bind_exc, Rs.bind_bad, n_of, Rs.of_none, Option.bind_some, Option.bind_none, Option.join_some, Option.map_some,
  List.getElem?_cons_zero, List.getElem?_cons_succ, List.getElem?_nil, List.set_cons_zero, List.set_cons_succ, List.length_cons, List.length_nil, T.toD, bl?_d, Nat.zero_lt_succ, Nat.succ_lt_succ_iff, if_true, if_false, reduceIte, reduceCtorEq, List.map_cons, List.map_nil, List.cons_append, List.nil_append, List.replicate_succ, List.replicate_zero, Nat.reduceAdd, Nat.reduceSub, Nat.reduceLT, Nat.reduceLeDiff, Nat.reduceEqDiff, bAdd_ii, bSub_ii, bMul_small, bMod_pos, bFdiv_pos, bPow_small, Int.reduceToNat, Int.reducePow, decide_eq_true_eq, decide_true, decide_false, bLt_ii, bGe_ii, bGt_ii, bLe_ii, bEq_ii, bNe_ii, bInt_i, bLen_l, bLen_d, bLen_ro, bLen_t, bList_l, bList_d, bList_ro, bList_t, bTuple_l, bTuple_d, bTuple_t, uAppend_one, uInsert_one, uPopAt_one, outs, aHas, aNo, aOne, aOr, bIx_l, bIx_d, bIx_t, bIx_ro, bTru, atI_lit, ixN_lit, bSl_l, bSl_d, bSl_ro, isi_l, isi_d, isi_t, isi_i, isi_b, isi_s, isi_n, Rs.env_ok, fSeq_l, fSeq_d, fSeq_ro, fSeq_t, fZip_ll, fZip_ld, fZip_dl, fZip_dd, fZip_tt, fEnum_l, fEnum_d, bIsN_of, bNotN_of, isNon_i, isNon_b, isNon_s, isNon_l, isNon_t, isNon_n, Tn.any, Tn.sub, eq_self, Bool.or_self, Bool.and_self, Bool.or_false, ne_eq, not_true, not_false_eq_true, and_self, and_true, true_and, opsFree, List.all_cons, List.all_nil, bEq_bb, bEq_ss, bNe_bb, bNe_ss, Bool.and_true, Bool.not_true, Bool.not_false, Bool.false_eq_true, List.any_cons, List.any_nil, Nat.reduceBEq, Bool.or_false, Bool.or_true, Bool.false_or, Bool.true_and, Bool.false_and, wipeE, unwipeE, hr, hi]
        exact ⟨i, 0, m, _, rfl, by omega, by omega, by omega, by omega⟩
    · simp (disch := omega) only [p_stepC, p_stepF, p_seq, p_asg, p_drop, p_ret, p_pass, p_break, p_cont, p_ifs, p_if, p_de, p_ed, p_eo, p_do, p_use, p_move, p_pk, p_c, p_op2, p_op1, p_b, p_andT, p_orT, p_notT, p_tru, p_andV, p_orV, p_notV, p_aug, p_par, p_lst, p_tup, p_upd, p_isN, p_notN, p_isi, p_sl, p_inone, p_isome, p_cb, p_call, p_callk, p_anil, p_acons, p_dnil, p_dcons, p_enil, p_econs, p_yes, p_gn, p_gnil, p_gcons, p_gtup, p_gsub, p_cres, n_crT, n_cr2, takeOps, putOps, isOwnL, n_f1, atAll, Op.at, Rs.map_ok, n_bind, n_ap1, n_ap2, n_apL, Rs.bind_exc, Rs.bind_bad, n_of, Rs.of_none, Option.bind_some, Option.bind_none, Option.join_some, Option.map_some,
  List.getElem?_cons_zero, List.getElem?_cons_succ, List.getElem?_nil, List.set_cons_zero, List.set_cons_succ, List.length_cons, List.length_nil, T.toD, bl?_d, Nat.zero_lt_succ, Nat.succ_lt_succ_iff, if_true, if_false, reduceIte, reduceCtorEq, List.map_cons, List.map_nil, List.cons_append, List.nil_append, List.replicate_succ, List.replicate_zero, Nat.reduceAdd, Nat.reduceSub, Nat.reduceLT, Nat.reduceLeDiff, Nat.reduceEqDiff, bAdd_ii, bSub_ii, bMul_small, bMod_pos, bFdiv_pos, bPow_small, Int.reduceToNat, Int.reducePow, decide_eq_true_eq, decide_true, decide_false, bLt_ii, bGe_ii, bGt_ii, bLe_ii, bEq_ii, bNe_ii, bInt_i, bLen_l, bLen_d, bLen_ro, bLen_t, bList_l, bList_d, bList_ro, bList_t, bTuple_l, bTuple_d, bTuple_t, uAppend_one, uInsert_one, uPopAt_one, outs, aHas, aNo, aOne, aOr, bIx_l, bIx_d, bIx_t, bIx_ro, bTru, atI_lit, ixN_lit, bSl_l, bSl_d, bSl_ro, isi_l, isi_d, isi_t, isi_i, isi_b, isi_s, isi_n, Rs.env_ok, fSeq_l, fSeq_d, fSeq_ro, fSeq_t, fZip_ll, fZip_ld, fZip_dl, fZip_dd, fZip_tt, fEnum_l, fEnum_d, bIsN_of, bNotN_of, isNon_i, isNon_b, isNon_s, isNon_l, isNon_t, isNon_n, Tn.any, Tn.sub, eq_self, Bool.or_self, Bool.and_self, Bool.or_false, ne_eq, not_true, not_false_eq_true, and_self, and_true, true_and, opsFree, List.all_cons, List.all_nil, bEq_bb, bEq_ss, bNe_bb, bNe_ss, Bool.and_true, Bool.not_true, Bool.not_false, Bool.false_eq_true, List.any_cons, List.any_nil, Nat.reduceBEq, Bool.or_false, Bool.or_true, Bool.false_or, Bool.true_and, Bool.false_and, wipeE, unwipeE, hr]
      exact ⟨i, r, m, _, rfl, by omega, by omega, by omega, by omega⟩
  obtain ⟨b', r2, e2, t1, t2, t3, t4, t5⟩ := draw_tail (k := k + 1) (by omega) hs hs2 (cs.map D.int) i' r' m' (n + 1) o cs rfl g2 g3 g4 g5 (by omega) (by omega)
  refine ⟨b', r2, ?_, t3, t4, t5⟩
  unfold m__law_draw
  refine Eq.trans (fn_ret (t := .d (.int r2)) (e := e2) (by rfl) ((seq_nx2 e1).trans t1)) ?_
  simp only [outs, aHas, aNo, aOne, aOr, List.any_nil, List.any_cons, List.append_nil, List.nil_append, List.cons_append, t2, Option.join_some, Nat.reduceBEq, Bool.or_false, Bool.false_eq_true, if_false]
theorem of_ok {k : Nat} {b xs : List D} (h : BagOk k b) (hk : k < 2 ^ 39) (h0 : xs ≠ []) (hx : xs.length < 2 ^ 64) : ∃ b' r, ∃ hr : r < xs.length, m__law_of [.l b, .d (.lst xs)] = .ok (.d xs[r]) [some (.l b'), some (.d (.lst xs))] ∧ BagOk (k + 1) b' := by
  have hl : 0 < xs.length := List.length_pos_iff.mpr h0
  obtain ⟨b', r, e, h1, h2, h3⟩ := draw_ok (s := (xs.length : Int)) h hk (by omega) (by omega)
  refine ⟨b', r.toNat, by omega, ?_, h1⟩
  have er : atI xs r = some xs[r.toNat] := by rw [atI_pos h2, List.getElem?_eq_getElem]
  unfold m__law_of
  refine Eq.trans (fn_ret (t := .d xs[r.toNat]) (e := [some (.l b'), some (.d (.lst xs))]) (by rfl) ?_) (by rfl)
  unfold mb__law_of q__law_of_0
  simp only [p_stepC, p_stepF, p_seq, p_asg, p_drop, p_ret, p_pass, p_break, p_cont, p_ifs, p_if, p_de, p_ed, p_eo, p_do, p_use, p_move, p_pk, p_c, p_op2, p_op1, p_b, p_andT, p_orT, p_notT, p_tru, p_andV, p_orV, p_notV, p_aug, p_par, p_lst, p_tup, p_upd, p_isN, p_notN, p_isi, p_sl, p_inone, p_isome, p_cb, p_call, p_callk, p_anil, p_acons, p_dnil, p_dcons, p_enil, p_econs, p_yes, p_gn, p_gnil, p_gcons, p_gtup, p_gsub, p_cres, n_crT, n_cr2, takeOps, putOps, isOwnL, n_f1, atAll, Op.at, Rs.map_ok, n_bind, n_ap1, n_ap2, n_apL, Rs.bind_exc, Rs.bind_bad, n_of, Rs.of_none, Option.bind_some, Option.bind_none, Option.join_some, Option.map_some,
  List.getElem?_cons_zero, List.getElem?_cons_succ, List.getElem?_nil, List.set_cons_zero, List.set_cons_succ, List.length_cons, List.length_nil, T.toD, bl?_d, Nat.zero_lt_succ, Nat.succ_lt_succ_iff, if_true, if_false, reduceIte, reduceCtorEq, List.map_cons, List.map_nil, List.cons_append, List.nil_append, List.replicate_succ, List.replicate_zero, Nat.reduceAdd, Nat.reduceSub, Nat.reduceLT, Nat.reduceLeDiff, Nat.reduceEqDiff, bAdd_ii, bSub_ii, bMul_small, bMod_pos, bFdiv_pos, bPow_small, Int.reduceToNat, Int.reducePow, decide_eq_true_eq, decide_true, decide_false, bLt_ii, bGe_ii, bGt_ii, bLe_ii, bEq_ii, bNe_ii, bInt_i, bLen_l, bLen_d, bLen_ro, bLen_t, bList_l, bList_d, bList_ro, bList_t, bTuple_l, bTuple_d, bTuple_t, uAppend_one, uInsert_one, uPopAt_one, outs, aHas, aNo, aOne, aOr, bIx_l, bIx_d, bIx_t, bIx_ro, bTru, atI_lit, ixN_lit, bSl_l, bSl_d, bSl_ro, isi_l, isi_d, isi_t, isi_i, isi_b, isi_s, isi_n, Rs.env_ok, fSeq_l, fSeq_d, fSeq_ro, fSeq_t, fZip_ll, fZip_ld, fZip_dl, fZip_dd, fZip_tt, fEnum_l, fEnum_d, bIsN_of, bNotN_of, isNon_i, isNon_b, isNon_s, isNon_l, isNon_t, isNon_n, Tn.any, Tn.sub, eq_self, Bool.or_self, Bool.and_self, Bool.or_false, ne_eq, not_true, not_false_eq_true, and_self, and_true, true_and, opsFree, List.all_cons, List.all_nil, bEq_bb, bEq_ss, bNe_bb, bNe_ss, Bool.and_true, Bool.not_true, Bool.not_false, Bool.false_eq_true, List.any_cons, List.any_nil, Nat.reduceBEq, Bool.or_false, Bool.or_true, Bool.false_or, Bool.true_and, Bool.false_and, wipeE, unwipeE, e, er]
end NS
namespace NS
open PySem L2
theorem bag_ok {ns : List Int} (hl : ns.length ≤ 63) : ∃ b as, m__law_bag [.d (.ro (ns.map D.int))] = .ok (.l b) as ∧ BagOk 0 b := by
  have e1 : (mAsg (mDE (mC (.int 13976))) (gN 1)) [some (.d (.ro (ns.map D.int))), none, none] = .ok .nx [some (.d (.ro (ns.map D.int))), some (.d (.int 13976)), none] := by
    simp only [p_stepC, p_stepF, p_seq, p_asg, p_drop, p_ret, p_pass, p_break, p_cont, p_ifs, p_if, p_de, p_ed, p_eo, p_do, p_use, p_move, p_pk, p_c, p_op2, p_op1, p_b, p_andT, p_orT, p_notT, p_tru, p_andV, p_orV, p_notV, p_aug, p_par, p_lst, p_tup, p_upd, p_isN, p_notN, p_isi, p_sl, p_inone, p_isome, p_cb, p_call, p_callk, p_anil, p_acons, p_dnil, p_dcons, p_enil, p_econs, p_yes, p_gn, p_gnil, p_gcons, p_gtup, p_gsub, p_cres, n_crT, n_cr2, takeOps, putOps, isOwnL, n_f1, atAll, Op.at, Rs.map_ok, n_bind, n_ap1, n_ap2, n_apL, Rs.bind_exc, Rs.bind_bad, n_of, Rs.of_none, Option.bind_some, Option.bind_none, Option.join_some, Option.map_some,
  List.getElem?_cons_zero, List.getElem?_cons_succ, List.getElem?_nil, List.set_cons_zero, List.set_cons_succ, List.length_cons, List.length_nil, T.toD, bl?_d, Nat.zero_lt_succ, Nat.succ_lt_succ_iff, if_true, if_false, reduceIte, reduceCtorEq, List.map_cons, List.map_nil, List.cons_append, List.nil_append, List.replicate_succ, List.replicate_zero, Nat.reduceAdd, Nat.reduceSub, Nat.reduceLT, Nat.reduceLeDiff, Nat.reduceEqDiff, bAdd_ii, bSub_ii, bMul_small, bMod_pos, bFdiv_pos, bPow_small, Int.reduceToNat, Int.reducePow, decide_eq_true_eq, decide_true, decide_false, bLt_ii, bGe_ii, bGt_ii, bLe_ii, bEq_ii, bNe_ii, bInt_i, bLen_l, bLen_d, bLen_ro, bLen_t, bList_l, bList_d, bList_ro, bList_t, bTuple_l, bTuple_d, bTuple_t, uAppend_one, uInsert_one, uPopAt_one, outs, aHas, aNo, aOne, aOr, bIx_l, bIx_d, bIx_t, bIx_ro, bTru, atI_lit, ixN_lit, bSl_l, bSl_d, bSl_ro, isi_l, isi_d, isi_t, isi_i, isi_b, isi_s, isi_n, Rs.env_ok, fSeq_l, fSeq_d, fSeq_ro, fSeq_t, fZip_ll, fZip_ld, fZip_dl, fZip_dd, fZip_tt, fEnum_l, fEnum_d, bIsN_of, bNotN_of, isNon_i, isNon_b, isNon_s, isNon_l, isNon_t, isNon_n, Tn.any, Tn.sub, eq_self, Bool.or_self, Bool.and_self, Bool.or_false, ne_eq, not_true, not_false_eq_true, and_self, and_true, true_and, opsFree, List.all_cons, List.all_nil, bEq_bb, bEq_ss, bNe_bb, bNe_ss, Bool.and_true, Bool.not_true, Bool.not_false, Bool.false_eq_true, List.any_cons, List.any_nil, Nat.reduceBEq, Bool.or_false, Bool.or_true, Bool.false_or, Bool.true_and, Bool.false_and, wipeE, unwipeE]
  obtain ⟨e', h1, m, o, rfl, h2, h3⟩ := for_inv (g := gN 2) (b := b__law_bag_1) (fun i env => ∃ m o, env = [some (.d (.ro (ns.map D.int))), some (.d (.int m)), o] ∧ 0 ≤ m ∧ m < 2 ^ 40) ((ns.map D.int).take 63) 0 [some (.d (.ro (ns.map D.int))), some (.d (.int 13976)), none] ⟨_, _, rfl, by omega, by omega⟩ (fun j d env hd ⟨m, o, he, hm, hm2⟩ => by
    have hd' : ∃ c, d = .int c := by
      have := List.mem_of_getElem? hd
      have := List.mem_of_mem_take this
      obtain ⟨c, _, rfl⟩ := List.mem_map.mp this
      exact ⟨c, rfl⟩
    obtain ⟨c, rfl⟩ := hd'
    subst he
    unfold b__law_bag_1 q__law_bag_0
    simp (disch := omega) only [p_stepC, p_stepF, p_seq, p_asg, p_drop, p_ret, p_pass, p_break, p_cont, p_ifs, p_if, p_de, p_ed, p_eo, p_do, p_use, p_move, p_pk, p_c, p_op2, p_op1, p_b, p_andT, p_orT, p_notT, p_tru, p_andV, p_orV, p_notV, p_aug, p_par, p_lst, p_tup, p_upd, p_isN, p_notN, p_isi, p_sl, p_inone, p_isome, p_cb, p_call, p_callk, p_anil, p_acons, p_dnil, p_dcons, p_enil, p_econs, p_yes, p_gn, p_gnil, p_gcons, p_gtup, p_gsub, p_cres, n_crT, n_cr2, takeOps, putOps, isOwnL, n_f1, atAll, Op.at, Rs.map_ok, n_bind, n_ap1, n_ap2, n_apL, Rs.bind_exc, Rs.bind_bad, n_of, Rs.of_none, Option.bind_some, Option.bind_none, Option.join_some, Option.map_some,
  List.getElem?_cons_zero, List.getElem?_cons_succ, List.getElem?_nil, List.set_cons_zero, List.set_cons_succ, List.length_cons, List.length_nil, T.toD, bl?_d, Nat.zero_lt_succ, Nat.succ_lt_succ_iff, if_true, if_false, reduceIte, reduceCtorEq, List.map_cons, List.map_nil, List.cons_append, List.nil_append, List.replicate_succ, List.replicate_zero, Nat.reduceAdd, Nat.reduceSub, Nat.reduceLT, Nat.reduceLeDiff, Nat.reduceEqDiff, bAdd_ii, bSub_ii, bMul_small, bMod_pos, bFdiv_pos, bPow_small, Int.reduceToNat, Int.reducePow, decide_eq_true_eq, decide_true, decide_false, bLt_ii, bGe_ii, bGt_ii, bLe_ii, bEq_ii, bNe_ii, bInt_i, bLen_l, bLen_d, bLen_ro, bLen_t, bList_l, bList_d, bList_ro, bList_t, bTuple_l, bTuple_d, bTuple_t, uAppend_one, uInsert_one, uPopAt_one, outs, aHas, aNo, aOne, aOr, bIx_l, bIx_d, bIx_t, bIx_ro, bTru, atI_lit, ixN_lit, bSl_l, bSl_d, bSl_ro, isi_l, isi_d, isi_t, isi_i, isi_b, isi_s, isi_n, Rs.env_ok, fSeq_l, fSeq_d, fSeq_ro, fSeq_t, fZip_ll, fZip_ld, fZip_dl, fZip_dd, fZip_tt, fEnum_l, fEnum_d, bIsN_of, bNotN_of, isNon_i, isNon_b, isNon_s, isNon_l, isNon_t, isNon_n, Tn.any, Tn.sub, eq_self, Bool.or_self, Bool.and_self, Bool.or_false, ne_eq, not_true, not_false_eq_true, and_self, and_true, true_and, opsFree, List.all_cons, List.all_nil, bEq_bb, bEq_ss, bNe_bb, bNe_ss, Bool.and_true, Bool.not_true, Bool.not_false, Bool.false_eq_true, List.any_cons, List.any_nil, Nat.reduceBEq, Bool.or_false, Bool.or_true, Bool.false_or, Bool.true_and, Bool.false_and, wipeE, unwipeE]
    exact ⟨_, rfl, _, _, rfl, by omega, by omega⟩)
  have e2 : q__law_bag_2 [some (.d (.ro (ns.map D.int))), some (.d (.int 13976)), none] = .ok .nx [some (.d (.ro (ns.map D.int))), some (.d (.int m)), o] := by
    unfold q__law_bag_2
    simp only [p_stepC, p_stepF, p_seq, p_asg, p_drop, p_ret, p_pass, p_break, p_cont, p_ifs, p_if, p_de, p_ed, p_eo, p_do, p_use, p_move, p_pk, p_c, p_op2, p_op1, p_b, p_andT, p_orT, p_notT, p_tru, p_andV, p_orV, p_notV, p_aug, p_par, p_lst, p_tup, p_upd, p_isN, p_notN, p_isi, p_sl, p_inone, p_isome, p_cb, p_call, p_callk, p_anil, p_acons, p_dnil, p_dcons, p_enil, p_econs, p_yes, p_gn, p_gnil, p_gcons, p_gtup, p_gsub, p_cres, n_crT, n_cr2, takeOps, putOps, isOwnL, n_f1, atAll, Op.at, Rs.map_ok, n_bind, n_ap1, n_ap2, n_apL, Rs.bind_exc, Rs.bind_bad, n_of, Rs.of_none, Option.bind_some, Option.bind_none, Option.join_some, Option.map_some,
  List.getElem?_cons_zero, List.getElem?_cons_succ, List.getElem?_nil, List.set_cons_zero, List.set_cons_succ, List.length_cons, List.length_nil, T.toD, bl?_d, Nat.zero_lt_succ, Nat.succ_lt_succ_iff, if_true, if_false, reduceIte, reduceCtorEq, List.map_cons, List.map_nil, List.cons_append, List.nil_append, List.replicate_succ, List.replicate_zero, Nat.reduceAdd, Nat.reduceSub, Nat.reduceLT, Nat.reduceLeDiff, Nat.reduceEqDiff, bAdd_ii, bSub_ii, bMul_small, bMod_pos, bFdiv_pos, bPow_small, Int.reduceToNat, Int.reducePow, decide_eq_true_eq, decide_true, decide_false, bLt_ii, bGe_ii, bGt_ii, bLe_ii, bEq_ii, bNe_ii, bInt_i, bLen_l, bLen_d, bLen_ro, bLen_t, bList_l, bList_d, bList_ro, bList_t, bTuple_l, bTuple_d, bTuple_t, uAppend_one, uInsert_one, uPopAt_one, outs, aHas, aNo, aOne, aOr, bIx_l, bIx_d, bIx_t, bIx_ro, bTru, atI_lit, ixN_lit, bSl_l, bSl_d, bSl_ro, isi_l, isi_d, isi_t, isi_i, isi_b, isi_s, isi_n, Rs.env_ok, fSeq_l, fSeq_d, fSeq_ro, fSeq_t, fZip_ll, fZip_ld, fZip_dl, fZip_dd, fZip_tt, fEnum_l, fEnum_d, bIsN_of, bNotN_of, isNon_i, isNon_b, isNon_s, isNon_l, isNon_t, isNon_n, Tn.any, Tn.sub, eq_self, Bool.or_self, Bool.and_self, Bool.or_false, ne_eq, not_true, not_false_eq_true, and_self, and_true, true_and, opsFree, List.all_cons, List.all_nil, bEq_bb, bEq_ss, bNe_bb, bNe_ss, Bool.and_true, Bool.not_true, Bool.not_false, Bool.false_eq_true, List.any_cons, List.any_nil, Nat.reduceBEq, Bool.or_false, Bool.or_true, Bool.false_or, Bool.true_and, Bool.false_and, wipeE, unwipeE, p_for, cut_to (show (0 : Int) ≤ 63 by decide), h1]
  have e3 : q__law_bag_3 [some (.d (.ro (ns.map D.int))), some (.d (.int m)), o] = .ok (.rt (.l [.lst ((ns.map D.int).take 63), .int 0, .int 0, .int m, .int 0])) [some (.d (.ro (ns.map D.int))), some (.d (.int m)), o] := by
    unfold q__law_bag_3
    simp only [p_stepC, p_stepF, p_seq, p_asg, p_drop, p_ret, p_pass, p_break, p_cont, p_ifs, p_if, p_de, p_ed, p_eo, p_do, p_use, p_move, p_pk, p_c, p_op2, p_op1, p_b, p_andT, p_orT, p_notT, p_tru, p_andV, p_orV, p_notV, p_aug, p_par, p_lst, p_tup, p_upd, p_isN, p_notN, p_isi, p_sl, p_inone, p_isome, p_cb, p_call, p_callk, p_anil, p_acons, p_dnil, p_dcons, p_enil, p_econs, p_yes, p_gn, p_gnil, p_gcons, p_gtup, p_gsub, p_cres, n_crT, n_cr2, takeOps, putOps, isOwnL, n_f1, atAll, Op.at, Rs.map_ok, n_bind, n_ap1, n_ap2, n_apL, Rs.bind_exc, Rs.bind_bad, n_of, Rs.of_none, Option.bind_some, Option.bind_none, Option.join_some, Option.map_some,
  List.getElem?_cons_zero, List.getElem?_cons_succ, List.getElem?_nil, List.set_cons_zero, List.set_cons_succ, List.length_cons, List.length_nil, T.toD, bl?_d, Nat.zero_lt_succ, Nat.succ_lt_succ_iff, if_true, if_false, reduceIte, reduceCtorEq, List.map_cons, List.map_nil, List.cons_append, List.nil_append, List.replicate_succ, List.replicate_zero, Nat.reduceAdd, Nat.reduceSub, Nat.reduceLT, Nat.reduceLeDiff, Nat.reduceEqDiff, bAdd_ii, bSub_ii, bMul_small, bMod_pos, bFdiv_pos, bPow_small, Int.reduceToNat, Int.reducePow, decide_eq_true_eq, decide_true, decide_false, bLt_ii, bGe_ii, bGt_ii, bLe_ii, bEq_ii, bNe_ii, bInt_i, bLen_l, bLen_d, bLen_ro, bLen_t, bList_l, bList_d, bList_ro, bList_t, bTuple_l, bTuple_d, bTuple_t, uAppend_one, uInsert_one, uPopAt_one, outs, aHas, aNo, aOne, aOr, bIx_l, bIx_d, bIx_t, bIx_ro, bTru, atI_lit, ixN_lit, bSl_l, bSl_d, bSl_ro, isi_l, isi_d, isi_t, isi_i, isi_b, isi_s, isi_n, Rs.env_ok, fSeq_l, fSeq_d, fSeq_ro, fSeq_t, fZip_ll, fZip_ld, fZip_dl, fZip_dd, fZip_tt, fEnum_l, fEnum_d, bIsN_of, bNotN_of, isNon_i, isNon_b, isNon_s, isNon_l, isNon_t, isNon_n, Tn.any, Tn.sub, eq_self, Bool.or_self, Bool.and_self, Bool.or_false, ne_eq, not_true, not_false_eq_true, and_self, and_true, true_and, opsFree, List.all_cons, List.all_nil, bEq_bb, bEq_ss, bNe_bb, bNe_ss, Bool.and_true, Bool.not_true, Bool.not_false, Bool.false_eq_true, List.any_cons, List.any_nil, Nat.reduceBEq, Bool.or_false, Bool.or_true, Bool.false_or, Bool.true_and, Bool.false_and, wipeE, unwipeE, cut_to (show (0 : Int) ≤ 63 by decide), sizeLine_val]
  refine ⟨_, _, fn_ret (by rfl) ((seq_nx e1).trans ((seq_nx e2).trans e3)), ⟨ns.take 63, 0, 0, m, 0, by rw [List.map_take], by omega, by omega, h2, h3, by omega, by omega⟩⟩
theorem of_ok2 {k : Nat} {b xs : List D} (h : BagOk k b) (hk : k < 2 ^ 39) (h0 : xs ≠ []) (hx : xs.length < 2 ^ 64) : ∃ b' r, ∃ hr : r < xs.length, m__law_of [.l b, .l xs] = .ok (.d xs[r]) [some (.l b'), some (.l xs)] ∧ BagOk (k + 1) b' := by
  have hl : 0 < xs.length := List.length_pos_iff.mpr h0
  obtain ⟨b', r, e, h1, h2, h3⟩ := draw_ok (s := (xs.length : Int)) h hk (by omega) (by omega)
  refine ⟨b', r.toNat, by omega, ?_, h1⟩
  have er : atI xs r = some xs[r.toNat] := by rw [atI_pos h2, List.getElem?_eq_getElem]
  unfold m__law_of
  refine Eq.trans (fn_ret (t := .d xs[r.toNat]) (e := [some (.l b'), some (.l xs)]) (by rfl) ?_) (by rfl)
  unfold mb__law_of q__law_of_0
  simp only [p_stepC, p_stepF, p_seq, p_asg, p_drop, p_ret, p_pass, p_break, p_cont, p_ifs, p_if, p_de, p_ed, p_eo, p_do, p_use, p_move, p_pk, p_c, p_op2, p_op1, p_b, p_andT, p_orT, p_notT, p_tru, p_andV, p_orV, p_notV, p_aug, p_par, p_lst, p_tup, p_upd, p_isN, p_notN, p_isi, p_sl, p_inone, p_isome, p_cb, p_call, p_callk, p_anil, p_acons, p_dnil, p_dcons, p_enil, p_econs, p_yes, p_gn, p_gnil, p_gcons, p_gtup, p_gsub, p_cres, n_crT, n_cr2, takeOps, putOps, isOwnL, n_f1, atAll, Op.at, Rs.map_ok, n_bind, n_ap1, n_ap2, n_apL, Rs.bind_exc, Rs.bind_bad, n_of, Rs.of_none, Option.bind_some, Option.bind_none, Option.join_some, Option.map_some,
  List.getElem?_cons_zero, List.getElem?_cons_succ, List.getElem?_nil, List.set_cons_zero, List.set_cons_succ, List.length_cons, List.length_nil, T.toD, bl?_d, Nat.zero_lt_succ, Nat.succ_lt_succ_iff, if_true, if_false, reduceIte, reduceCtorEq, List.map_cons, List.map_nil, List.cons_append, List.nil_append, List.replicate_succ, List.replicate_zero, Nat.reduceAdd, Nat.reduceSub, Nat.reduceLT, Nat.reduceLeDiff, Nat.reduceEqDiff, bAdd_ii, bSub_ii, bMul_small, bMod_pos, bFdiv_pos, bPow_small, Int.reduceToNat, Int.reducePow, decide_eq_true_eq, decide_true, decide_false, bLt_ii, bGe_ii, bGt_ii, bLe_ii, bEq_ii, bNe_ii, bInt_i, bLen_l, bLen_d, bLen_ro, bLen_t, bList_l, bList_d, bList_ro, bList_t, bTuple_l, bTuple_d, bTuple_t, uAppend_one, uInsert_one, uPopAt_one, outs, aHas, aNo, aOne, aOr, bIx_l, bIx_d, bIx_t, bIx_ro, bTru, atI_lit, ixN_lit, bSl_l, bSl_d, bSl_ro, isi_l, isi_d, isi_t, isi_i, isi_b, isi_s, isi_n, Rs.env_ok, fSeq_l, fSeq_d, fSeq_ro, fSeq_t, fZip_ll, fZip_ld, fZip_dl, fZip_dd, fZip_tt, fEnum_l, fEnum_d, bIsN_of, bNotN_of, isNon_i, isNon_b, isNon_s, isNon_l, isNon_t, isNon_n, Tn.any, Tn.sub, eq_self, Bool.or_self, Bool.and_self, Bool.or_false, ne_eq, not_true, not_false_eq_true, and_self, and_true, true_and, opsFree, List.all_cons, List.all_nil, bEq_bb, bEq_ss, bNe_bb, bNe_ss, Bool.and_true, Bool.not_true, Bool.not_false, Bool.false_eq_true, List.any_cons, List.any_nil, Nat.reduceBEq, Bool.or_false, Bool.or_true, Bool.false_or, Bool.true_and, Bool.false_and, wipeE, unwipeE, e, er]
theorem mixed_ok {k : Nat} {b xs : List D} (h : BagOk k b) (hk : k + xs.length < 2 ^ 39) (hx : xs.length < 10000) : ∃ b' ys, m__law_mixed [.l b, .l xs] = .ok (.d (.lst ys)) [some (.l b'), some (.l xs)] ∧ BagOk (k + xs.length) b' ∧ ys.length = xs.length ∧ ∀ y ∈ ys, y ∈ xs := by
  have e1 : (mAsg (mLst dNil) (gN 2)) [some (.l b), some (.l xs), none, none] = .ok .nx [some (.l b), some (.l xs), some (.l []), none] := by
    simp only [p_stepC, p_stepF, p_seq, p_asg, p_drop, p_ret, p_pass, p_break, p_cont, p_ifs, p_if, p_de, p_ed, p_eo, p_do, p_use, p_move, p_pk, p_c, p_op2, p_op1, p_b, p_andT, p_orT, p_notT, p_tru, p_andV, p_orV, p_notV, p_aug, p_par, p_lst, p_tup, p_upd, p_isN, p_notN, p_isi, p_sl, p_inone, p_isome, p_cb, p_call, p_callk, p_anil, p_acons, p_dnil, p_dcons, p_enil, p_econs, p_yes, p_gn, p_gnil, p_gcons, p_gtup, p_gsub, p_cres, n_crT, n_cr2, takeOps, putOps, isOwnL, n_f1, atAll, Op.at, Rs.map_ok, n_bind, n_ap1, n_ap2, n_apL, Rs.bind_exc, Rs.bind_bad, n_of, Rs.of_none, Option.bind_some, Option.bind_none, Option.join_some, Option.map_some,
  List.getElem?_cons_zero, List.getElem?_cons_succ, List.getElem?_nil, List.set_cons_zero, List.set_cons_succ, List.length_cons, List.length_nil, T.toD, bl?_d, Nat.zero_lt_succ, Nat.succ_lt_succ_iff, if_true, if_false, reduceIte, reduceCtorEq, List.map_cons, List.map_nil, List.cons_append, List.nil_append, List.replicate_succ, List.replicate_zero, Nat.reduceAdd, Nat.reduceSub, Nat.reduceLT, Nat.reduceLeDiff, Nat.reduceEqDiff, bAdd_ii, bSub_ii, bMul_small, bMod_pos, bFdiv_pos, bPow_small, Int.reduceToNat, Int.reducePow, decide_eq_true_eq, decide_true, decide_false, bLt_ii, bGe_ii, bGt_ii, bLe_ii, bEq_ii, bNe_ii, bInt_i, bLen_l, bLen_d, bLen_ro, bLen_t, bList_l, bList_d, bList_ro, bList_t, bTuple_l, bTuple_d, bTuple_t, uAppend_one, uInsert_one, uPopAt_one, outs, aHas, aNo, aOne, aOr, bIx_l, bIx_d, bIx_t, bIx_ro, bTru, atI_lit, ixN_lit, bSl_l, bSl_d, bSl_ro, isi_l, isi_d, isi_t, isi_i, isi_b, isi_s, isi_n, Rs.env_ok, fSeq_l, fSeq_d, fSeq_ro, fSeq_t, fZip_ll, fZip_ld, fZip_dl, fZip_dd, fZip_tt, fEnum_l, fEnum_d, bIsN_of, bNotN_of, isNon_i, isNon_b, isNon_s, isNon_l, isNon_t, isNon_n, Tn.any, Tn.sub, eq_self, Bool.or_self, Bool.and_self, Bool.or_false, ne_eq, not_true, not_false_eq_true, and_self, and_true, true_and, opsFree, List.all_cons, List.all_nil, bEq_bb, bEq_ss, bNe_bb, bNe_ss, Bool.and_true, Bool.not_true, Bool.not_false, Bool.false_eq_true, List.any_cons, List.any_nil, Nat.reduceBEq, Bool.or_false, Bool.or_true, Bool.false_or, Bool.true_and, Bool.false_and, wipeE, unwipeE, sizeLine_val]
  obtain ⟨e', h1, b', ys, o, rfl, h2, h3, h4⟩ := for_inv (g := gN 3) (b := b__law_mixed_1) (fun i env => ∃ b' ys o, env = [some (.l b'), none, some (.l ys), o] ∧ BagOk (k + i) b' ∧ ys.length = i ∧ ∀ y ∈ ys, y ∈ xs) xs 0 [some (.l b), none, some (.l []), none] ⟨_, _, _, rfl, h, rfl, fun _ h => (List.not_mem_nil h).elim⟩ (fun j d env hd ⟨b', ys, o, he, hb, hl, hy⟩ => by
    subst he
    have hj : j < xs.length := (List.getElem?_eq_some_iff.mp hd).1
    obtain ⟨b2, r, e, h5, h6, h7⟩ := draw_ok (s := (ys.length : Int) + 1) hb (by omega) (by omega) (by omega)
    unfold b__law_mixed_1 q__law_mixed_0
    have c : ys.length < sizeLine ∧ 0 ≤ r ∧ r < 9223372036854775808 := by rw [sizeLine_val]; omega
    simp only [p_stepC, p_stepF, p_seq, p_asg, p_drop, p_ret, p_pass, p_break, p_cont, p_ifs, p_if, p_de, p_ed, p_eo, p_do, p_use, p_move, p_pk, p_c, p_op2, p_op1, p_b, p_andT, p_orT, p_notT, p_tru, p_andV, p_orV, p_notV, p_aug, p_par, p_lst, p_tup, p_upd, p_isN, p_notN, p_isi, p_sl, p_inone, p_isome, p_cb, p_call, p_callk, p_anil, p_acons, p_dnil, p_dcons, p_enil, p_econs, p_yes, p_gn, p_gnil, p_gcons, p_gtup, p_gsub, p_cres, n_crT, n_cr2, takeOps, putOps, isOwnL, n_f1, atAll, Op.at, Rs.map_ok, n_bind, n_ap1, n_ap2, n_apL, Rs.bind_exc, Rs.bind_bad, n_of, Rs.of_none, Option.bind_some, Option.bind_none, Option.join_some, Option.map_some,
  List.getElem?_cons_zero, List.getElem?_cons_succ, List.getElem?_nil, List.set_cons_zero, List.set_cons_succ, List.length_cons, List.length_nil, T.toD, bl?_d, Nat.zero_lt_succ, Nat.succ_lt_succ_iff, if_true, if_false, reduceIte, reduceCtorEq, List.map_cons, List.map_nil, List.cons_append, List.nil_append, List.replicate_succ, List.replicate_zero, Nat.reduceAdd, Nat.reduceSub, Nat.reduceLT, Nat.reduceLeDiff, Nat.reduceEqDiff, bAdd_ii, bSub_ii, bMul_small, bMod_pos, bFdiv_pos, bPow_small, Int.reduceToNat, Int.reducePow, decide_eq_true_eq, decide_true, decide_false, bLt_ii, bGe_ii, bGt_ii, bLe_ii, bEq_ii, bNe_ii, bInt_i, bLen_l, bLen_d, bLen_ro, bLen_t, bList_l, bList_d, bList_ro, bList_t, bTuple_l, bTuple_d, bTuple_t, uAppend_one, uInsert_one, uPopAt_one, outs, aHas, aNo, aOne, aOr, bIx_l, bIx_d, bIx_t, bIx_ro, bTru, atI_lit, ixN_lit, bSl_l, bSl_d, bSl_ro, isi_l, isi_d, isi_t, isi_i, isi_b, isi_s, isi_n, Rs.env_ok, fSeq_l, fSeq_d, fSeq_ro, fSeq_t, fZip_ll, fZip_ld, fZip_dl, fZip_dd, fZip_tt, fEnum_l, fEnum_d, bIsN_of, bNotN_of, isNon_i, isNon_b, isNon_s, isNon_l, isNon_t, isNon_n, Tn.any, Tn.sub, eq_self, Bool.or_self, Bool.and_self, Bool.or_false, ne_eq, not_true, not_false_eq_true, and_self, and_true, true_and, opsFree, List.all_cons, List.all_nil, bEq_bb, bEq_ss, bNe_bb, bNe_ss, Bool.and_true, Bool.not_true, Bool.not_false, Bool.false_eq_true, List.any_cons, List.any_nil, Nat.reduceBEq, Bool.or_false, Bool.or_true, Bool.false_or, Bool.true_and, Bool.false_and, wipeE, unwipeE, e, c]
    refine ⟨_, rfl, b2, _, _, rfl, h5, ?_, ?_⟩
    · simp only [List.length_append, List.length_take, List.length_drop, List.length_cons, List.length_nil]; omega
    · intro y hy'
      rcases List.mem_append.mp hy' with h | h
      · rcases List.mem_append.mp h with h | h
        · exact hy y (List.mem_of_mem_take h)
        · rw [List.mem_singleton.mp h]; exact List.mem_of_getElem? hd
      · exact hy y (List.mem_of_mem_drop h))
  rw [Nat.zero_add] at h2 h3
  have e2 : q__law_mixed_2 [some (.l b), some (.l xs), some (.l []), none] = .ok .nx [some (.l b'), some (.l xs), some (.l ys), o] := by
    unfold q__law_mixed_2
    simp only [p_stepC, p_stepF, p_seq, p_asg, p_drop, p_ret, p_pass, p_break, p_cont, p_ifs, p_if, p_de, p_ed, p_eo, p_do, p_use, p_move, p_pk, p_c, p_op2, p_op1, p_b, p_andT, p_orT, p_notT, p_tru, p_andV, p_orV, p_notV, p_aug, p_par, p_lst, p_tup, p_upd, p_isN, p_notN, p_isi, p_sl, p_inone, p_isome, p_cb, p_call, p_callk, p_anil, p_acons, p_dnil, p_dcons, p_enil, p_econs, p_yes, p_gn, p_gnil, p_gcons, p_gtup, p_gsub, p_cres, n_crT, n_cr2, takeOps, putOps, isOwnL, n_f1, atAll, Op.at, Rs.map_ok, n_bind, n_ap1, n_ap2, n_apL, Rs.bind_exc, Rs.bind_bad, n_of, Rs.of_none, Option.bind_some, Option.bind_none, Option.join_some, Option.map_some,
  List.getElem?_cons_zero, List.getElem?_cons_succ, List.getElem?_nil, List.set_cons_zero, List.set_cons_succ, List.length_cons, List.length_nil, T.toD, bl?_d, Nat.zero_lt_succ, Nat.succ_lt_succ_iff, if_true, if_false, reduceIte, reduceCtorEq, List.map_cons, List.map_nil, List.cons_append, List.nil_append, List.replicate_succ, List.replicate_zero, Nat.reduceAdd, Nat.reduceSub, Nat.reduceLT, Nat.reduceLeDiff, Nat.reduceEqDiff, bAdd_ii, bSub_ii, bMul_small, bMod_pos, bFdiv_pos, bPow_small, Int.reduceToNat, Int.reducePow, decide_eq_true_eq, decide_true, decide_false, bLt_ii, bGe_ii, bGt_ii, bLe_ii, bEq_ii, bNe_ii, bInt_i, bLen_l, bLen_d, bLen_ro, bLen_t, bList_l, bList_d, bList_ro, bList_t, bTuple_l, bTuple_d, bTuple_t, uAppend_one, uInsert_one, uPopAt_one, outs, aHas, aNo, aOne, aOr, bIx_l, bIx_d, bIx_t, bIx_ro, bTru, atI_lit, ixN_lit, bSl_l, bSl_d, bSl_ro, isi_l, isi_d, isi_t, isi_i, isi_b, isi_s, isi_n, Rs.env_ok, fSeq_l, fSeq_d, fSeq_ro, fSeq_t, fZip_ll, fZip_ld, fZip_dl, fZip_dd, fZip_tt, fEnum_l, fEnum_d, bIsN_of, bNotN_of, isNon_i, isNon_b, isNon_s, isNon_l, isNon_t, isNon_n, Tn.any, Tn.sub, eq_self, Bool.or_self, Bool.and_self, Bool.or_false, ne_eq, not_true, not_false_eq_true, and_self, and_true, true_and, opsFree, List.all_cons, List.all_nil, bEq_bb, bEq_ss, bNe_bb, bNe_ss, Bool.and_true, Bool.not_true, Bool.not_false, Bool.false_eq_true, List.any_cons, List.any_nil, Nat.reduceBEq, Bool.or_false, Bool.or_true, Bool.false_or, Bool.true_and, Bool.false_and, wipeE, unwipeE, p_for, h1]
  have e3 : (mRet (mDE (mUse 2))) [some (.l b'), some (.l xs), some (.l ys), o] = .ok (.rt (.d (.lst ys))) [some (.l b'), some (.l xs), some (.d (.lst ys)), o] := by
    simp only [p_stepC, p_stepF, p_seq, p_asg, p_drop, p_ret, p_pass, p_break, p_cont, p_ifs, p_if, p_de, p_ed, p_eo, p_do, p_use, p_move, p_pk, p_c, p_op2, p_op1, p_b, p_andT, p_orT, p_notT, p_tru, p_andV, p_orV, p_notV, p_aug, p_par, p_lst, p_tup, p_upd, p_isN, p_notN, p_isi, p_sl, p_inone, p_isome, p_cb, p_call, p_callk, p_anil, p_acons, p_dnil, p_dcons, p_enil, p_econs, p_yes, p_gn, p_gnil, p_gcons, p_gtup, p_gsub, p_cres, n_crT, n_cr2, takeOps, putOps, isOwnL, n_f1, atAll, Op.at, Rs.map_ok, n_bind, n_ap1, n_ap2, n_apL, Rs.bind_exc, Rs.bind_bad, n_of, Rs.of_none, Option.bind_some, Option.bind_none, Option.join_some, Option.map_some,
  List.getElem?_cons_zero, List.getElem?_cons_succ, List.getElem?_nil, List.set_cons_zero, List.set_cons_succ, List.length_cons, List.length_nil, T.toD, bl?_d, Nat.zero_lt_succ, Nat.succ_lt_succ_iff, if_true, if_false, reduceIte, reduceCtorEq, List.map_cons, List.map_nil, List.cons_append, List.nil_append, List.replicate_succ, List.replicate_zero, Nat.reduceAdd, Nat.reduceSub, Nat.reduceLT, Nat.reduceLeDiff, Nat.reduceEqDiff, bAdd_ii, bSub_ii, bMul_small, bMod_pos, bFdiv_pos, bPow_small, Int.reduceToNat, Int.reducePow, decide_eq_true_eq, decide_true, decide_false, bLt_ii, bGe_ii, bGt_ii, bLe_ii, bEq_ii, bNe_ii, bInt_i, bLen_l, bLen_d, bLen_ro, bLen_t, bList_l, bList_d, bList_ro, bList_t, bTuple_l, bTuple_d, bTuple_t, uAppend_one, uInsert_one, uPopAt_one, outs, aHas, aNo, aOne, aOr, bIx_l, bIx_d, bIx_t, bIx_ro, bTru, atI_lit, ixN_lit, bSl_l, bSl_d, bSl_ro, isi_l, isi_d, isi_t, isi_i, isi_b, isi_s, isi_n, Rs.env_ok, fSeq_l, fSeq_d, fSeq_ro, fSeq_t, fZip_ll, fZip_ld, fZip_dl, fZip_dd, fZip_tt, fEnum_l, fEnum_d, bIsN_of, bNotN_of, isNon_i, isNon_b, isNon_s, isNon_l, isNon_t, isNon_n, Tn.any, Tn.sub, eq_self, Bool.or_self, Bool.and_self, Bool.or_false, ne_eq, not_true, not_false_eq_true, and_self, and_true, true_and, opsFree, List.all_cons, List.all_nil, bEq_bb, bEq_ss, bNe_bb, bNe_ss, Bool.and_true, Bool.not_true, Bool.not_false, Bool.false_eq_true, List.any_cons, List.any_nil, Nat.reduceBEq, Bool.or_false, Bool.or_true, Bool.false_or, Bool.true_and, Bool.false_and, wipeE, unwipeE]
  exact ⟨b', ys, Eq.trans (fn_ret (by rfl) ((seq_nx e1).trans ((seq_nx e2).trans e3))) (by rfl), h2, h3, h4⟩
end NS
namespace NS
open PySem L2
/-- data that is d deep at most -/
inductive Dp : Nat → D → Prop where
  | int (n : Nat) (i : Int) : Dp (n + 1) (.int i)
  | bl (n : Nat) (i : Bool) : Dp (n + 1) (.bl i)
  | str (n : Nat) (i : Str) : Dp (n + 1) (.str i)
  | non (n : Nat) : Dp (n + 1) .non
  | lst (n : Nat) (xs : List D) : xs.length ≤ sizeLine → (∀ x ∈ xs, Dp n x) → Dp (n + 1) (.lst xs)
  | tup (n : Nat) (xs : List D) : xs.length ≤ sizeLine → (∀ x ∈ xs, Dp n x) → Dp (n + 1) (.tup xs)
theorem zip_len {xs : List D} : (zipD xs xs).length = xs.length := by unfold zipD; simp
theorem like_ok : ∀ (n : Nat) (x : D), Dp n x → ∀ t u, IsT t x → IsT u x → m__law_like n [t, u] = .ok (.d (.bl true)) [some t, some u] := by
  intro n
  induction n with
  | zero => intro x h; cases h
  | succ n ih =>
    intro x h t u ht hu
    have key : mb__law_like (m__law_like n) [some t, some u, none, none] = .ok (.rt (.d (.bl true))) [some t, some u, none, none] := by
      have cs : ∀ (xs : List D), (∀ x ∈ xs, Dp n x) → xs.length ≤ sizeLine → ∀ a b : Option T, compGo [2, 3] (gTup' 2 (gCons' (gN 2) (gCons' (gN 3) gNil'))) mYes (mED (mCall (m__law_like n) (aCons (mPk 2) (aCons (mPk 3) aNil)))) (zipD xs xs) [a, b, none, none] [] = .ok ([] ++ (zipD xs xs).filterMap fun _ => some (.bl true)) [a, b, none, none] := fun xs hx hl a b =>
        comp_map (fun _ => some (.bl true)) _ _ (fun d hd => by
          obtain ⟨x, h1, rfl⟩ := zip_same hd
          have e := ih x (hx x h1) _ _ (.d x) (.d x)
          simp only [p_stepC, p_stepF, p_seq, p_asg, p_drop, p_ret, p_pass, p_break, p_cont, p_ifs, p_if, p_de, p_ed, p_eo, p_do, p_use, p_move, p_pk, p_c, p_op2, p_op1, p_b, p_andT, p_orT, p_notT, p_tru, p_andV, p_orV, p_notV, p_aug, p_par, p_lst, p_tup, p_upd, p_isN, p_notN, p_isi, p_sl, p_inone, p_isome, p_cb, p_call, p_callk, p_anil, p_acons, p_dnil, p_dcons, p_enil, p_econs, p_yes, p_gn, p_gnil, p_gcons, p_gtup, p_gsub, p_cres, n_crT, n_cr2, takeOps, putOps, isOwnL, n_f1, atAll, Op.at, Rs.map_ok, n_bind, n_ap1, n_ap2, n_apL, Rs.bind_exc, Rs.bind_bad, n_of, Rs.of_none, Option.bind_some, Option.bind_none, Option.join_some, Option.map_some,
  List.getElem?_cons_zero, List.getElem?_cons_succ, List.getElem?_nil, List.set_cons_zero, List.set_cons_succ, List.length_cons, List.length_nil, T.toD, bl?_d, Nat.zero_lt_succ, Nat.succ_lt_succ_iff, if_true, if_false, reduceIte, reduceCtorEq, List.map_cons, List.map_nil, List.cons_append, List.nil_append, List.replicate_succ, List.replicate_zero, Nat.reduceAdd, Nat.reduceSub, Nat.reduceLT, Nat.reduceLeDiff, Nat.reduceEqDiff, bAdd_ii, bSub_ii, bMul_small, bMod_pos, bFdiv_pos, bPow_small, Int.reduceToNat, Int.reducePow, decide_eq_true_eq, decide_true, decide_false, bLt_ii, bGe_ii, bGt_ii, bLe_ii, bEq_ii, bNe_ii, bInt_i, bLen_l, bLen_d, bLen_ro, bLen_t, bList_l, bList_d, bList_ro, bList_t, bTuple_l, bTuple_d, bTuple_t, uAppend_one, uInsert_one, uPopAt_one, outs, aHas, aNo, aOne, aOr, bIx_l, bIx_d, bIx_t, bIx_ro, bTru, atI_lit, ixN_lit, bSl_l, bSl_d, bSl_ro, isi_l, isi_d, isi_t, isi_i, isi_b, isi_s, isi_n, Rs.env_ok, fSeq_l, fSeq_d, fSeq_ro, fSeq_t, fZip_ll, fZip_ld, fZip_dl, fZip_dd, fZip_tt, fEnum_l, fEnum_d, bIsN_of, bNotN_of, isNon_i, isNon_b, isNon_s, isNon_l, isNon_t, isNon_n, Tn.any, Tn.sub, eq_self, Bool.or_self, Bool.and_self, Bool.or_false, ne_eq, not_true, not_false_eq_true, and_self, and_true, true_and, opsFree, List.all_cons, List.all_nil, bEq_bb, bEq_ss, bNe_bb, bNe_ss, Bool.and_true, Bool.not_true, Bool.not_false, Bool.false_eq_true, List.any_cons, List.any_nil, Nat.reduceBEq, Bool.or_false, Bool.or_true, Bool.false_or, Bool.true_and, Bool.false_and, wipeE, unwipeE, e]) (by rw [zip_len]; simpa using hl)
      unfold mb__law_like q__law_like_0 q__law_like_1 q__law_like_2 q__law_like_3 q__law_like_4
      cases h with
      | int _ i => cases ht; cases hu; simp only [p_stepC, p_stepF, p_seq, p_asg, p_drop, p_ret, p_pass, p_break, p_cont, p_ifs, p_if, p_de, p_ed, p_eo, p_do, p_use, p_move, p_pk, p_c, p_op2, p_op1, p_b, p_andT, p_orT, p_notT, p_tru, p_andV, p_orV, p_notV, p_aug, p_par, p_lst, p_tup, p_upd, p_isN, p_notN, p_isi, p_sl, p_inone, p_isome, p_cb, p_call, p_callk, p_anil, p_acons, p_dnil, p_dcons, p_enil, p_econs, p_yes, p_gn, p_gnil, p_gcons, p_gtup, p_gsub, p_cres, n_crT, n_cr2, takeOps, putOps, isOwnL, n_f1, atAll, Op.at, Rs.map_ok, n_bind, n_ap1, n_ap2, n_apL, Rs.bind_exc, Rs.bind_bad, n_of, Rs.of_none, Option.bind_some, Option.bind_none, Option.join_some, Option.map_some,
  List.getElem?_cons_zero, List.getElem?_cons_succ, List.getElem?_nil, List.set_cons_zero, List.set_cons_succ, List.length_cons, List.length_nil, T.toD, bl?_d, Nat.zero_lt_succ, Nat.succ_lt_succ_iff, if_true, if_false, reduceIte, reduceCtorEq, List.map_cons, List.map_nil, List.cons_append, List.nil_append, List.replicate_succ, List.replicate_zero, Nat.reduceAdd, Nat.reduceSub, Nat.reduceLT, Nat.reduceLeDiff, Nat.reduceEqDiff, bAdd_ii, bSub_ii, bMul_small, bMod_pos, bFdiv_pos, bPow_small, Int.reduceToNat, Int.reducePow, decide_eq_true_eq, decide_true, decide_false, bLt_ii, bGe_ii, bGt_ii, bLe_ii, bEq_ii, bNe_ii, bInt_i, bLen_l, bLen_d, bLen_ro, bLen_t, bList_l, bList_d, bList_ro, bList_t, bTuple_l, bTuple_d, bTuple_t, uAppend_one, uInsert_one, uPopAt_one, outs, aHas, aNo, aOne, aOr, bIx_l, bIx_d, bIx_t, bIx_ro, bTru, atI_lit, ixN_lit, bSl_l, bSl_d, bSl_ro, isi_l, isi_d, isi_t, isi_i, isi_b, isi_s, isi_n, Rs.env_ok, fSeq_l, fSeq_d, fSeq_ro, fSeq_t, fZip_ll, fZip_ld, fZip_dl, fZip_dd, fZip_tt, fEnum_l, fEnum_d, bIsN_of, bNotN_of, isNon_i, isNon_b, isNon_s, isNon_l, isNon_t, isNon_n, Tn.any, Tn.sub, eq_self, Bool.or_self, Bool.and_self, Bool.or_false, ne_eq, not_true, not_false_eq_true, and_self, and_true, true_and, opsFree, List.all_cons, List.all_nil, bEq_bb, bEq_ss, bNe_bb, bNe_ss, Bool.and_true, Bool.not_true, Bool.not_false, Bool.false_eq_true, List.any_cons, List.any_nil, Nat.reduceBEq, Bool.or_false, Bool.or_true, Bool.false_or, Bool.true_and, Bool.false_and, wipeE, unwipeE]
      | bl _ i => cases ht; cases hu; simp only [p_stepC, p_stepF, p_seq, p_asg, p_drop, p_ret, p_pass, p_break, p_cont, p_ifs, p_if, p_de, p_ed, p_eo, p_do, p_use, p_move, p_pk, p_c, p_op2, p_op1, p_b, p_andT, p_orT, p_notT, p_tru, p_andV, p_orV, p_notV, p_aug, p_par, p_lst, p_tup, p_upd, p_isN, p_notN, p_isi, p_sl, p_inone, p_isome, p_cb, p_call, p_callk, p_anil, p_acons, p_dnil, p_dcons, p_enil, p_econs, p_yes, p_gn, p_gnil, p_gcons, p_gtup, p_gsub, p_cres, n_crT, n_cr2, takeOps, putOps, isOwnL, n_f1, atAll, Op.at, Rs.map_ok, n_bind, n_ap1, n_ap2, n_apL, Rs.bind_exc, Rs.bind_bad, n_of, Rs.of_none, Option.bind_some, Option.bind_none, Option.join_some, Option.map_some,
  List.getElem?_cons_zero, List.getElem?_cons_succ, List.getElem?_nil, List.set_cons_zero, List.set_cons_succ, List.length_cons, List.length_nil, T.toD, bl?_d, Nat.zero_lt_succ, Nat.succ_lt_succ_iff, if_true, if_false, reduceIte, reduceCtorEq, List.map_cons, List.map_nil, List.cons_append, List.nil_append, List.replicate_succ, List.replicate_zero, Nat.reduceAdd, Nat.reduceSub, Nat.reduceLT, Nat.reduceLeDiff, Nat.reduceEqDiff, bAdd_ii, bSub_ii, bMul_small, bMod_pos, bFdiv_pos, bPow_small, Int.reduceToNat, Int.reducePow, decide_eq_true_eq, decide_true, decide_false, bLt_ii, bGe_ii, bGt_ii, bLe_ii, bEq_ii, bNe_ii, bInt_i, bLen_l, bLen_d, bLen_ro, bLen_t, bList_l, bList_d, bList_ro, bList_t, bTuple_l, bTuple_d, bTuple_t, uAppend_one, uInsert_one, uPopAt_one, outs, aHas, aNo, aOne, aOr, bIx_l, bIx_d, bIx_t, bIx_ro, bTru, atI_lit, ixN_lit, bSl_l, bSl_d, bSl_ro, isi_l, isi_d, isi_t, isi_i, isi_b, isi_s, isi_n, Rs.env_ok, fSeq_l, fSeq_d, fSeq_ro, fSeq_t, fZip_ll, fZip_ld, fZip_dl, fZip_dd, fZip_tt, fEnum_l, fEnum_d, bIsN_of, bNotN_of, isNon_i, isNon_b, isNon_s, isNon_l, isNon_t, isNon_n, Tn.any, Tn.sub, eq_self, Bool.or_self, Bool.and_self, Bool.or_false, ne_eq, not_true, not_false_eq_true, and_self, and_true, true_and, opsFree, List.all_cons, List.all_nil, bEq_bb, bEq_ss, bNe_bb, bNe_ss, Bool.and_true, Bool.not_true, Bool.not_false, Bool.false_eq_true, List.any_cons, List.any_nil, Nat.reduceBEq, Bool.or_false, Bool.or_true, Bool.false_or, Bool.true_and, Bool.false_and, wipeE, unwipeE]
      | str _ i => cases ht; cases hu; simp only [p_stepC, p_stepF, p_seq, p_asg, p_drop, p_ret, p_pass, p_break, p_cont, p_ifs, p_if, p_de, p_ed, p_eo, p_do, p_use, p_move, p_pk, p_c, p_op2, p_op1, p_b, p_andT, p_orT, p_notT, p_tru, p_andV, p_orV, p_notV, p_aug, p_par, p_lst, p_tup, p_upd, p_isN, p_notN, p_isi, p_sl, p_inone, p_isome, p_cb, p_call, p_callk, p_anil, p_acons, p_dnil, p_dcons, p_enil, p_econs, p_yes, p_gn, p_gnil, p_gcons, p_gtup, p_gsub, p_cres, n_crT, n_cr2, takeOps, putOps, isOwnL, n_f1, atAll, Op.at, Rs.map_ok, n_bind, n_ap1, n_ap2, n_apL, Rs.bind_exc, Rs.bind_bad, n_of, Rs.of_none, Option.bind_some, Option.bind_none, Option.join_some, Option.map_some,
  List.getElem?_cons_zero, List.getElem?_cons_succ, List.getElem?_nil, List.set_cons_zero, List.set_cons_succ, List.length_cons, List.length_nil, T.toD, bl?_d, Nat.zero_lt_succ, Nat.succ_lt_succ_iff, if_true, if_false, reduceIte, reduceCtorEq, List.map_cons, List.map_nil, List.cons_append, List.nil_append, List.replicate_succ, List.replicate_zero, Nat.reduceAdd, Nat.reduceSub, Nat.reduceLT, Nat.reduceLeDiff, Nat.reduceEqDiff, bAdd_ii, bSub_ii, bMul_small, bMod_pos, bFdiv_pos, bPow_small, Int.reduceToNat, Int.reducePow, decide_eq_true_eq, decide_true, decide_false, bLt_ii, bGe_ii, bGt_ii, bLe_ii, bEq_ii, bNe_ii, bInt_i, bLen_l, bLen_d, bLen_ro, bLen_t, bList_l, bList_d, bList_ro, bList_t, bTuple_l, bTuple_d, bTuple_t, uAppend_one, uInsert_one, uPopAt_one, outs, aHas, aNo, aOne, aOr, bIx_l, bIx_d, bIx_t, bIx_ro, bTru, atI_lit, ixN_lit, bSl_l, bSl_d, bSl_ro, isi_l, isi_d, isi_t, isi_i, isi_b, isi_s, isi_n, Rs.env_ok, fSeq_l, fSeq_d, fSeq_ro, fSeq_t, fZip_ll, fZip_ld, fZip_dl, fZip_dd, fZip_tt, fEnum_l, fEnum_d, bIsN_of, bNotN_of, isNon_i, isNon_b, isNon_s, isNon_l, isNon_t, isNon_n, Tn.any, Tn.sub, eq_self, Bool.or_self, Bool.and_self, Bool.or_false, ne_eq, not_true, not_false_eq_true, and_self, and_true, true_and, opsFree, List.all_cons, List.all_nil, bEq_bb, bEq_ss, bNe_bb, bNe_ss, Bool.and_true, Bool.not_true, Bool.not_false, Bool.false_eq_true, List.any_cons, List.any_nil, Nat.reduceBEq, Bool.or_false, Bool.or_true, Bool.false_or, Bool.true_and, Bool.false_and, wipeE, unwipeE]
      | non => cases ht; cases hu; simp only [p_stepC, p_stepF, p_seq, p_asg, p_drop, p_ret, p_pass, p_break, p_cont, p_ifs, p_if, p_de, p_ed, p_eo, p_do, p_use, p_move, p_pk, p_c, p_op2, p_op1, p_b, p_andT, p_orT, p_notT, p_tru, p_andV, p_orV, p_notV, p_aug, p_par, p_lst, p_tup, p_upd, p_isN, p_notN, p_isi, p_sl, p_inone, p_isome, p_cb, p_call, p_callk, p_anil, p_acons, p_dnil, p_dcons, p_enil, p_econs, p_yes, p_gn, p_gnil, p_gcons, p_gtup, p_gsub, p_cres, n_crT, n_cr2, takeOps, putOps, isOwnL, n_f1, atAll, Op.at, Rs.map_ok, n_bind, n_ap1, n_ap2, n_apL, Rs.bind_exc, Rs.bind_bad, n_of, Rs.of_none, Option.bind_some, Option.bind_none, Option.join_some, Option.map_some,
  List.getElem?_cons_zero, List.getElem?_cons_succ, List.getElem?_nil, List.set_cons_zero, List.set_cons_succ, List.length_cons, List.length_nil, T.toD, bl?_d, Nat.zero_lt_succ, Nat.succ_lt_succ_iff, if_true, if_false, reduceIte, reduceCtorEq, List.map_cons, List.map_nil, List.cons_append, List.nil_append, List.replicate_succ, List.replicate_zero, Nat.reduceAdd, Nat.reduceSub, Nat.reduceLT, Nat.reduceLeDiff, Nat.reduceEqDiff, bAdd_ii, bSub_ii, bMul_small, bMod_pos, bFdiv_pos, bPow_small, Int.reduceToNat, Int.reducePow, decide_eq_true_eq, decide_true, decide_false, bLt_ii, bGe_ii, bGt_ii, bLe_ii, bEq_ii, bNe_ii, bInt_i, bLen_l, bLen_d, bLen_ro, bLen_t, bList_l, bList_d, bList_ro, bList_t, bTuple_l, bTuple_d, bTuple_t, uAppend_one, uInsert_one, uPopAt_one, outs, aHas, aNo, aOne, aOr, bIx_l, bIx_d, bIx_t, bIx_ro, bTru, atI_lit, ixN_lit, bSl_l, bSl_d, bSl_ro, isi_l, isi_d, isi_t, isi_i, isi_b, isi_s, isi_n, Rs.env_ok, fSeq_l, fSeq_d, fSeq_ro, fSeq_t, fZip_ll, fZip_ld, fZip_dl, fZip_dd, fZip_tt, fEnum_l, fEnum_d, bIsN_of, bNotN_of, isNon_i, isNon_b, isNon_s, isNon_l, isNon_t, isNon_n, Tn.any, Tn.sub, eq_self, Bool.or_self, Bool.and_self, Bool.or_false, ne_eq, not_true, not_false_eq_true, and_self, and_true, true_and, opsFree, List.all_cons, List.all_nil, bEq_bb, bEq_ss, bNe_bb, bNe_ss, Bool.and_true, Bool.not_true, Bool.not_false, Bool.false_eq_true, List.any_cons, List.any_nil, Nat.reduceBEq, Bool.or_false, Bool.or_true, Bool.false_or, Bool.true_and, Bool.false_and, wipeE, unwipeE]
      | lst _ xs hl hx =>
        have c := cs xs hx hl
        cases ht <;> cases hu <;> simp only [p_stepC, p_stepF, p_seq, p_asg, p_drop, p_ret, p_pass, p_break, p_cont, p_ifs, p_if, p_de, p_ed, p_eo, p_do, p_use, p_move, p_pk, p_c, p_op2, p_op1, p_b, p_andT, p_orT, p_notT, p_tru, p_andV, p_orV, p_notV, p_aug, p_par, p_lst, p_tup, p_upd, p_isN, p_notN, p_isi, p_sl, p_inone, p_isome, p_cb, p_call, p_callk, p_anil, p_acons, p_dnil, p_dcons, p_enil, p_econs, p_yes, p_gn, p_gnil, p_gcons, p_gtup, p_gsub, p_cres, n_crT, n_cr2, takeOps, putOps, isOwnL, n_f1, atAll, Op.at, Rs.map_ok, n_bind, n_ap1, n_ap2, n_apL, Rs.bind_exc, Rs.bind_bad, n_of, Rs.of_none, Option.bind_some, Option.bind_none, Option.join_some, Option.map_some,
  List.getElem?_cons_zero, List.getElem?_cons_succ, List.getElem?_nil, List.set_cons_zero, List.set_cons_succ, List.length_cons, List.length_nil, T.toD, bl?_d, Nat.zero_lt_succ, Nat.succ_lt_succ_iff, if_true, if_false, reduceIte, reduceCtorEq, List.map_cons, List.map_nil, List.cons_append, List.nil_append, List.replicate_succ, List.replicate_zero, Nat.reduceAdd, Nat.reduceSub, Nat.reduceLT, Nat.reduceLeDiff, Nat.reduceEqDiff, bAdd_ii, bSub_ii, bMul_small, bMod_pos, bFdiv_pos, bPow_small, Int.reduceToNat, Int.reducePow, decide_eq_true_eq, decide_true, decide_false, bLt_ii, bGe_ii, bGt_ii, bLe_ii, bEq_ii, bNe_ii, bInt_i, bLen_l, bLen_d, bLen_ro, bLen_t, bList_l, bList_d, bList_ro, bList_t, bTuple_l, bTuple_d, bTuple_t, uAppend_one, uInsert_one, uPopAt_one, outs, aHas, aNo, aOne, aOr, bIx_l, bIx_d, bIx_t, bIx_ro, bTru, atI_lit, ixN_lit, bSl_l, bSl_d, bSl_ro, isi_l, isi_d, isi_t, isi_i, isi_b, isi_s, isi_n, Rs.env_ok, fSeq_l, fSeq_d, fSeq_ro, fSeq_t, fZip_ll, fZip_ld, fZip_dl, fZip_dd, fZip_tt, fEnum_l, fEnum_d, bIsN_of, bNotN_of, isNon_i, isNon_b, isNon_s, isNon_l, isNon_t, isNon_n, Tn.any, Tn.sub, eq_self, Bool.or_self, Bool.and_self, Bool.or_false, ne_eq, not_true, not_false_eq_true, and_self, and_true, true_and, opsFree, List.all_cons, List.all_nil, bEq_bb, bEq_ss, bNe_bb, bNe_ss, Bool.and_true, Bool.not_true, Bool.not_false, Bool.false_eq_true, List.any_cons, List.any_nil, Nat.reduceBEq, Bool.or_false, Bool.or_true, Bool.false_or, Bool.true_and, Bool.false_and, wipeE, unwipeE, p_comp, c, List.nil_append, bAll_true]
      | tup _ xs hl hx =>
        have c := cs xs hx hl
        cases ht <;> cases hu <;> simp only [p_stepC, p_stepF, p_seq, p_asg, p_drop, p_ret, p_pass, p_break, p_cont, p_ifs, p_if, p_de, p_ed, p_eo, p_do, p_use, p_move, p_pk, p_c, p_op2, p_op1, p_b, p_andT, p_orT, p_notT, p_tru, p_andV, p_orV, p_notV, p_aug, p_par, p_lst, p_tup, p_upd, p_isN, p_notN, p_isi, p_sl, p_inone, p_isome, p_cb, p_call, p_callk, p_anil, p_acons, p_dnil, p_dcons, p_enil, p_econs, p_yes, p_gn, p_gnil, p_gcons, p_gtup, p_gsub, p_cres, n_crT, n_cr2, takeOps, putOps, isOwnL, n_f1, atAll, Op.at, Rs.map_ok, n_bind, n_ap1, n_ap2, n_apL, Rs.bind_exc, Rs.bind_bad, n_of, Rs.of_none, Option.bind_some, Option.bind_none, Option.join_some, Option.map_some,
  List.getElem?_cons_zero, List.getElem?_cons_succ, List.getElem?_nil, List.set_cons_zero, List.set_cons_succ, List.length_cons, List.length_nil, T.toD, bl?_d, Nat.zero_lt_succ, Nat.succ_lt_succ_iff, if_true, if_false, reduceIte, reduceCtorEq, List.map_cons, List.map_nil, List.cons_append, List.nil_append, List.replicate_succ, List.replicate_zero, Nat.reduceAdd, Nat.reduceSub, Nat.reduceLT, Nat.reduceLeDiff, Nat.reduceEqDiff, bAdd_ii, bSub_ii, bMul_small, bMod_pos, bFdiv_pos, bPow_small, Int.reduceToNat, Int.reducePow, decide_eq_true_eq, decide_true, decide_false, bLt_ii, bGe_ii, bGt_ii, bLe_ii, bEq_ii, bNe_ii, bInt_i, bLen_l, bLen_d, bLen_ro, bLen_t, bList_l, bList_d, bList_ro, bList_t, bTuple_l, bTuple_d, bTuple_t, uAppend_one, uInsert_one, uPopAt_one, outs, aHas, aNo, aOne, aOr, bIx_l, bIx_d, bIx_t, bIx_ro, bTru, atI_lit, ixN_lit, bSl_l, bSl_d, bSl_ro, isi_l, isi_d, isi_t, isi_i, isi_b, isi_s, isi_n, Rs.env_ok, fSeq_l, fSeq_d, fSeq_ro, fSeq_t, fZip_ll, fZip_ld, fZip_dl, fZip_dd, fZip_tt, fEnum_l, fEnum_d, bIsN_of, bNotN_of, isNon_i, isNon_b, isNon_s, isNon_l, isNon_t, isNon_n, Tn.any, Tn.sub, eq_self, Bool.or_self, Bool.and_self, Bool.or_false, ne_eq, not_true, not_false_eq_true, and_self, and_true, true_and, opsFree, List.all_cons, List.all_nil, bEq_bb, bEq_ss, bNe_bb, bNe_ss, Bool.and_true, Bool.not_true, Bool.not_false, Bool.false_eq_true, List.any_cons, List.any_nil, Nat.reduceBEq, Bool.or_false, Bool.or_true, Bool.false_or, Bool.true_and, Bool.false_and, wipeE, unwipeE, p_comp, c, List.nil_append, bAll_true]
    unfold m__law_like
    refine Eq.trans (fn_ret (by rfl) key) ?_
    cases ht <;> cases hu <;> rfl
end NS
namespace NS
open PySem L2 LA
theorem number_ok {k : Nat} {b : List D} {g : Bool} (h : BagOk k b) (hk : k + 10 < 2 ^ 39) : ∃ b' v, m__law_number [.l b, .d (.bl g)] = .ok (.d (.int v)) [some (.l b'), some (.d (.bl g))] ∧ BagOk (k + 4) b' ∧ v.natAbs ≤ 2 ^ 70 := by
  obtain ⟨b1, w, e1, h1, h2, h3⟩ := draw_ok (s := 8) h (by omega) (by omega) (by omega)
  obtain ⟨b2, x, e2, h4, h5, h6⟩ := draw_ok (s := 10000000) h1 (by omega) (by omega) (by omega)
  obtain ⟨b3, y, e3, h7, h8, h9⟩ := draw_ok (s := 10000000) h4 (by omega) (by omega) (by omega)
  obtain ⟨b4, z, e4, h10, h11, h12⟩ := draw_ok (s := 10000000) h7 (by omega) (by omega) (by omega)
  obtain ⟨b5, v, e5, h13, h14, h15⟩ := draw_ok (s := 7) h1 (by omega) (by omega) (by omega)
  have key : ∃ b' v e', mb__law_number [some (.l b), some (.d (.bl g)), none, none] = .ok (.rt (.d (.int v))) e' ∧ e'[0]? = some (some (.l b')) ∧ BagOk (k + 4) b' ∧ v.natAbs ≤ 2 ^ 70 := by
    unfold mb__law_number q__law_number_0 q__law_number_1 q__law_number_2 q__law_number_3
    by_cases c1 : w < 2
    · simp (disch := omega) only [p_stepC, p_stepF, p_seq, p_asg, p_drop, p_ret, p_pass, p_break, p_cont, p_ifs, p_if, p_de, p_ed, p_eo, p_do, p_use, p_move, p_pk, p_c, p_op2, p_op1, p_b, p_andT, p_orT, p_notT, p_tru, p_andV, p_orV, p_notV, p_aug, p_par, p_lst, p_tup, p_upd, p_isN, p_notN, p_isi, p_sl, p_inone, p_isome, p_cb, p_call, p_callk, p_anil, p_acons, p_dnil, p_dcons, p_enil, p_econs, p_yes, p_gn, p_gnil, p_gcons, p_gtup, p_gsub, p_cres, n_crT, n_cr2, takeOps, putOps, isOwnL, n_f1, atAll, Op.at, Rs.map_ok, n_bind, n_ap1, n_ap2, n_apL, Rs.bind_exc, Rs.bind_bad, n_of, Rs.of_none, Option.bind_some, Option.bind_none, Option.join_some, Option.map_some,
  List.getElem?_cons_zero, List.getElem?_cons_succ, List.getElem?_nil, List.set_cons_zero, List.set_cons_succ, List.length_cons, List.length_nil, T.toD, bl?_d, Nat.zero_lt_succ, Nat.succ_lt_succ_iff, if_true, if_false, reduceIte, reduceCtorEq, List.map_cons, List.map_nil, List.cons_append, List.nil_append, List.replicate_succ, List.replicate_zero, Nat.reduceAdd, Nat.reduceSub, Nat.reduceLT, Nat.reduceLeDiff, Nat.reduceEqDiff, bAdd_ii, bSub_ii, bMul_small, bMod_pos, bFdiv_pos, bPow_small, Int.reduceToNat, Int.reducePow, decide_eq_true_eq, decide_true, decide_false, bLt_ii, bGe_ii, bGt_ii, bLe_ii, bEq_ii, bNe_ii, bInt_i, bLen_l, bLen_d, bLen_ro, bLen_t, bList_l, bList_d, bList_ro, bList_t, bTuple_l, bTuple_d, bTuple_t, uAppend_one, uInsert_one, uPopAt_one, outs, aHas, aNo, aOne, aOr, bIx_l, bIx_d, bIx_t, bIx_ro, bTru, atI_lit, ixN_lit, bSl_l, bSl_d, bSl_ro, isi_l, isi_d, isi_t, isi_i, isi_b, isi_s, isi_n, Rs.env_ok, fSeq_l, fSeq_d, fSeq_ro, fSeq_t, fZip_ll, fZip_ld, fZip_dl, fZip_dd, fZip_tt, fEnum_l, fEnum_d, bIsN_of, bNotN_of, isNon_i, isNon_b, isNon_s, isNon_l, isNon_t, isNon_n, Tn.any, Tn.sub, eq_self, Bool.or_self, Bool.and_self, Bool.or_false, ne_eq, not_true, not_false_eq_true, and_self, and_true, true_and, opsFree, List.all_cons, List.all_nil, bEq_bb, bEq_ss, bNe_bb, bNe_ss, Bool.and_true, Bool.not_true, Bool.not_false, Bool.false_eq_true, List.any_cons, List.any_nil, Nat.reduceBEq, Bool.or_false, Bool.or_true, Bool.false_or, Bool.true_and, Bool.false_and, wipeE, unwipeE, e1, c1]
      exact ⟨_, _, _, rfl, rfl, h1.mono (by omega), by omega⟩
    · cases g with
      | false =>
        simp (disch := omega) only [p_stepC, p_stepF, p_seq, p_asg, p_drop, p_ret, p_pass, p_break, p_cont, p_ifs, p_if, p_de, p_ed, p_eo, p_do, p_use, p_move, p_pk, p_c, p_op2, p_op1, p_b, p_andT, p_orT, p_notT, p_tru, p_andV, p_orV, p_notV, p_aug, p_par, p_lst, p_tup, p_upd, p_isN, p_notN, p_isi, p_sl, p_inone, p_isome, p_cb, p_call, p_callk, p_anil, p_acons, p_dnil, p_dcons, p_enil, p_econs, p_yes, p_gn, p_gnil, p_gcons, p_gtup, p_gsub, p_cres, n_crT, n_cr2, takeOps, putOps, isOwnL, n_f1, atAll, Op.at, Rs.map_ok, n_bind, n_ap1, n_ap2, n_apL, Rs.bind_exc, Rs.bind_bad, n_of, Rs.of_none, Option.bind_some, Option.bind_none, Option.join_some, Option.map_some,
  List.getElem?_cons_zero, List.getElem?_cons_succ, List.getElem?_nil, List.set_cons_zero, List.set_cons_succ, List.length_cons, List.length_nil, T.toD, bl?_d, Nat.zero_lt_succ, Nat.succ_lt_succ_iff, if_true, if_false, reduceIte, reduceCtorEq, List.map_cons, List.map_nil, List.cons_append, List.nil_append, List.replicate_succ, List.replicate_zero, Nat.reduceAdd, Nat.reduceSub, Nat.reduceLT, Nat.reduceLeDiff, Nat.reduceEqDiff, bAdd_ii, bSub_ii, bMul_small, bMod_pos, bFdiv_pos, bPow_small, Int.reduceToNat, Int.reducePow, decide_eq_true_eq, decide_true, decide_false, bLt_ii, bGe_ii, bGt_ii, bLe_ii, bEq_ii, bNe_ii, bInt_i, bLen_l, bLen_d, bLen_ro, bLen_t, bList_l, bList_d, bList_ro, bList_t, bTuple_l, bTuple_d, bTuple_t, uAppend_one, uInsert_one, uPopAt_one, outs, aHas, aNo, aOne, aOr, bIx_l, bIx_d, bIx_t, bIx_ro, bTru, atI_lit, ixN_lit, bSl_l, bSl_d, bSl_ro, isi_l, isi_d, isi_t, isi_i, isi_b, isi_s, isi_n, Rs.env_ok, fSeq_l, fSeq_d, fSeq_ro, fSeq_t, fZip_ll, fZip_ld, fZip_dl, fZip_dd, fZip_tt, fEnum_l, fEnum_d, bIsN_of, bNotN_of, isNon_i, isNon_b, isNon_s, isNon_l, isNon_t, isNon_n, Tn.any, Tn.sub, eq_self, Bool.or_self, Bool.and_self, Bool.or_false, ne_eq, not_true, not_false_eq_true, and_self, and_true, true_and, opsFree, List.all_cons, List.all_nil, bEq_bb, bEq_ss, bNe_bb, bNe_ss, Bool.and_true, Bool.not_true, Bool.not_false, Bool.false_eq_true, List.any_cons, List.any_nil, Nat.reduceBEq, Bool.or_false, Bool.or_true, Bool.false_or, Bool.true_and, Bool.false_and, wipeE, unwipeE, e1, c1, e5]
        exact ⟨_, _, _, rfl, rfl, h13.mono (by omega), by omega⟩
      | true =>
        by_cases c2 : w < 6
        · by_cases c3 : w < 4
          · simp (disch := omega) only [p_stepC, p_stepF, p_seq, p_asg, p_drop, p_ret, p_pass, p_break, p_cont, p_ifs, p_if, p_de, p_ed, p_eo, p_do, p_use, p_move, p_pk, p_c, p_op2, p_op1, p_b, p_andT, p_orT, p_notT, p_tru, p_andV, p_orV, p_notV, p_aug, p_par, p_lst, p_tup, p_upd, p_isN, p_notN, p_isi, p_sl, p_inone, p_isome, p_cb, p_call, p_callk, p_anil, p_acons, p_dnil, p_dcons, p_enil, p_econs, p_yes, p_gn, p_gnil, p_gcons, p_gtup, p_gsub, p_cres, n_crT, n_cr2, takeOps, putOps, isOwnL, n_f1, atAll, Op.at, Rs.map_ok, n_bind, n_ap1, n_ap2, n_apL, Rs.bind_exc, Rs.bind_bad, n_of, Rs.of_none, Option.bind_some, Option.bind_none, Option.join_some, Option.map_some,
  List.getElem?_cons_zero, List.getElem?_cons_succ, List.getElem?_nil, List.set_cons_zero, List.set_cons_succ, List.length_cons, List.length_nil, T.toD, bl?_d, Nat.zero_lt_succ, Nat.succ_lt_succ_iff, if_true, if_false, reduceIte, reduceCtorEq, List.map_cons, List.map_nil, List.cons_append, List.nil_append, List.replicate_succ, List.replicate_zero, Nat.reduceAdd, Nat.reduceSub, Nat.reduceLT, Nat.reduceLeDiff, Nat.reduceEqDiff, bAdd_ii, bSub_ii, bMul_small, bMod_pos, bFdiv_pos, bPow_small, Int.reduceToNat, Int.reducePow, decide_eq_true_eq, decide_true, decide_false, bLt_ii, bGe_ii, bGt_ii, bLe_ii, bEq_ii, bNe_ii, bInt_i, bLen_l, bLen_d, bLen_ro, bLen_t, bList_l, bList_d, bList_ro, bList_t, bTuple_l, bTuple_d, bTuple_t, uAppend_one, uInsert_one, uPopAt_one, outs, aHas, aNo, aOne, aOr, bIx_l, bIx_d, bIx_t, bIx_ro, bTru, atI_lit, ixN_lit, bSl_l, bSl_d, bSl_ro, isi_l, isi_d, isi_t, isi_i, isi_b, isi_s, isi_n, Rs.env_ok, fSeq_l, fSeq_d, fSeq_ro, fSeq_t, fZip_ll, fZip_ld, fZip_dl, fZip_dd, fZip_tt, fEnum_l, fEnum_d, bIsN_of, bNotN_of, isNon_i, isNon_b, isNon_s, isNon_l, isNon_t, isNon_n, Tn.any, Tn.sub, eq_self, Bool.or_self, Bool.and_self, Bool.or_false, ne_eq, not_true, not_false_eq_true, and_self, and_true, true_and, opsFree, List.all_cons, List.all_nil, bEq_bb, bEq_ss, bNe_bb, bNe_ss, Bool.and_true, Bool.not_true, Bool.not_false, Bool.false_eq_true, List.any_cons, List.any_nil, Nat.reduceBEq, Bool.or_false, Bool.or_true, Bool.false_or, Bool.true_and, Bool.false_and, wipeE, unwipeE, e1, c1, c2, c3, e2, e3, e4]
            exact ⟨_, _, _, rfl, rfl, h10, by omega⟩
          · simp (disch := omega) only [p_stepC, p_stepF, p_seq, p_asg, p_drop, p_ret, p_pass, p_break, p_cont, p_ifs, p_if, p_de, p_ed, p_eo, p_do, p_use, p_move, p_pk, p_c, p_op2, p_op1, p_b, p_andT, p_orT, p_notT, p_tru, p_andV, p_orV, p_notV, p_aug, p_par, p_lst, p_tup, p_upd, p_isN, p_notN, p_isi, p_sl, p_inone, p_isome, p_cb, p_call, p_callk, p_anil, p_acons, p_dnil, p_dcons, p_enil, p_econs, p_yes, p_gn, p_gnil, p_gcons, p_gtup, p_gsub, p_cres, n_crT, n_cr2, takeOps, putOps, isOwnL, n_f1, atAll, Op.at, Rs.map_ok, n_bind, n_ap1, n_ap2, n_apL, Rs.bind_exc, Rs.bind_bad, n_of, Rs.of_none, Option.bind_some, Option.bind_none, Option.join_some, Option.map_some,
  List.getElem?_cons_zero, List.getElem?_cons_succ, List.getElem?_nil, List.set_cons_zero, List.set_cons_succ, List.length_cons, List.length_nil, T.toD, bl?_d, Nat.zero_lt_succ, Nat.succ_lt_succ_iff, if_true, if_false, reduceIte, reduceCtorEq, List.map_cons, List.map_nil, List.cons_append, List.nil_append, List.replicate_succ, List.replicate_zero, Nat.reduceAdd, Nat.reduceSub, Nat.reduceLT, Nat.reduceLeDiff, Nat.reduceEqDiff, bAdd_ii, bSub_ii, bMul_small, bMod_pos, bFdiv_pos, bPow_small, Int.reduceToNat, Int.reducePow, decide_eq_true_eq, decide_true, decide_false, bLt_ii, bGe_ii, bGt_ii, bLe_ii, bEq_ii, bNe_ii, bInt_i, bLen_l, bLen_d, bLen_ro, bLen_t, bList_l, bList_d, bList_ro, bList_t, bTuple_l, bTuple_d, bTuple_t, uAppend_one, uInsert_one, uPopAt_one, outs, aHas, aNo, aOne, aOr, bIx_l, bIx_d, bIx_t, bIx_ro, bTru, atI_lit, ixN_lit, bSl_l, bSl_d, bSl_ro, isi_l, isi_d, isi_t, isi_i, isi_b, isi_s, isi_n, Rs.env_ok, fSeq_l, fSeq_d, fSeq_ro, fSeq_t, fZip_ll, fZip_ld, fZip_dl, fZip_dd, fZip_tt, fEnum_l, fEnum_d, bIsN_of, bNotN_of, isNon_i, isNon_b, isNon_s, isNon_l, isNon_t, isNon_n, Tn.any, Tn.sub, eq_self, Bool.or_self, Bool.and_self, Bool.or_false, ne_eq, not_true, not_false_eq_true, and_self, and_true, true_and, opsFree, List.all_cons, List.all_nil, bEq_bb, bEq_ss, bNe_bb, bNe_ss, Bool.and_true, Bool.not_true, Bool.not_false, Bool.false_eq_true, List.any_cons, List.any_nil, Nat.reduceBEq, Bool.or_false, Bool.or_true, Bool.false_or, Bool.true_and, Bool.false_and, wipeE, unwipeE, e1, c1, c2, c3, e2, e3, e4]
            exact ⟨_, _, _, rfl, rfl, h10, by omega⟩
        · simp (disch := omega) only [p_stepC, p_stepF, p_seq, p_asg, p_drop, p_ret, p_pass, p_break, p_cont, p_ifs, p_if, p_de, p_ed, p_eo, p_do, p_use, p_move, p_pk, p_c, p_op2, p_op1, p_b, p_andT, p_orT, p_notT, p_tru, p_andV, p_orV, p_notV, p_aug, p_par, p_lst, p_tup, p_upd, p_isN, p_notN, p_isi, p_sl, p_inone, p_isome, p_cb, p_call, p_callk, p_anil, p_acons, p_dnil, p_dcons, p_enil, p_econs, p_yes, p_gn, p_gnil, p_gcons, p_gtup, p_gsub, p_cres, n_crT, n_cr2, takeOps, putOps, isOwnL, n_f1, atAll, Op.at, Rs.map_ok, n_bind, n_ap1, n_ap2, n_apL, Rs.bind_exc, Rs.bind_bad, n_of, Rs.of_none, Option.bind_some, Option.bind_none, Option.join_some, Option.map_some,
  List.getElem?_cons_zero, List.getElem?_cons_succ, List.getElem?_nil, List.set_cons_zero, List.set_cons_succ, List.length_cons, List.length_nil, T.toD, bl?_d, Nat.zero_lt_succ, Nat.succ_lt_succ_iff, if_true, if_false, reduceIte, reduceCtorEq, List.map_cons, List.map_nil, List.cons_append, List.nil_append, List.replicate_succ, List.replicate_zero, Nat.reduceAdd, Nat.reduceSub, Nat.reduceLT, Nat.reduceLeDiff, Nat.reduceEqDiff, bAdd_ii, bSub_ii, bMul_small, bMod_pos, bFdiv_pos, bPow_small, Int.reduceToNat, Int.reducePow, decide_eq_true_eq, decide_true, decide_false, bLt_ii, bGe_ii, bGt_ii, bLe_ii, bEq_ii, bNe_ii, bInt_i, bLen_l, bLen_d, bLen_ro, bLen_t, bList_l, bList_d, bList_ro, bList_t, bTuple_l, bTuple_d, bTuple_t, uAppend_one, uInsert_one, uPopAt_one, outs, aHas, aNo, aOne, aOr, bIx_l, bIx_d, bIx_t, bIx_ro, bTru, atI_lit, ixN_lit, bSl_l, bSl_d, bSl_ro, isi_l, isi_d, isi_t, isi_i, isi_b, isi_s, isi_n, Rs.env_ok, fSeq_l, fSeq_d, fSeq_ro, fSeq_t, fZip_ll, fZip_ld, fZip_dl, fZip_dd, fZip_tt, fEnum_l, fEnum_d, bIsN_of, bNotN_of, isNon_i, isNon_b, isNon_s, isNon_l, isNon_t, isNon_n, Tn.any, Tn.sub, eq_self, Bool.or_self, Bool.and_self, Bool.or_false, ne_eq, not_true, not_false_eq_true, and_self, and_true, true_and, opsFree, List.all_cons, List.all_nil, bEq_bb, bEq_ss, bNe_bb, bNe_ss, Bool.and_true, Bool.not_true, Bool.not_false, Bool.false_eq_true, List.any_cons, List.any_nil, Nat.reduceBEq, Bool.or_false, Bool.or_true, Bool.false_or, Bool.true_and, Bool.false_and, wipeE, unwipeE, e1, c1, c2, e5]
          exact ⟨_, _, _, rfl, rfl, h13.mono (by omega), by omega⟩
  obtain ⟨b', v, e', k1, k2, k3, k4⟩ := key
  refine ⟨b', v, ?_, k3, k4⟩
  unfold m__law_number
  refine Eq.trans (fn_ret (by rfl) k1) ?_
  simp only [outs, p_stepC, p_stepF, p_seq, p_asg, p_drop, p_ret, p_pass, p_break, p_cont, p_ifs, p_if, p_de, p_ed, p_eo, p_do, p_use, p_move, p_pk, p_c, p_op2, p_op1, p_b, p_andT, p_orT, p_notT, p_tru, p_andV, p_orV, p_notV, p_aug, p_par, p_lst, p_tup, p_upd, p_isN, p_notN, p_isi, p_sl, p_inone, p_isome, p_cb, p_call, p_callk, p_anil, p_acons, p_dnil, p_dcons, p_enil, p_econs, p_yes, p_gn, p_gnil, p_gcons, p_gtup, p_gsub, p_cres, n_crT, n_cr2, takeOps, putOps, isOwnL, n_f1, atAll, Op.at, Rs.map_ok, n_bind, n_ap1, n_ap2, n_apL, Rs.bind_exc, Rs.bind_bad, n_of, Rs.of_none, Option.bind_some, Option.bind_none, Option.join_some, Option.map_some,
  List.getElem?_cons_zero, List.getElem?_cons_succ, List.getElem?_nil, List.set_cons_zero, List.set_cons_succ, List.length_cons, List.length_nil, T.toD, bl?_d, Nat.zero_lt_succ, Nat.succ_lt_succ_iff, if_true, if_false, reduceIte, reduceCtorEq, List.map_cons, List.map_nil, List.cons_append, List.nil_append, List.replicate_succ, List.replicate_zero, Nat.reduceAdd, Nat.reduceSub, Nat.reduceLT, Nat.reduceLeDiff, Nat.reduceEqDiff, bAdd_ii, bSub_ii, bMul_small, bMod_pos, bFdiv_pos, bPow_small, Int.reduceToNat, Int.reducePow, decide_eq_true_eq, decide_true, decide_false, bLt_ii, bGe_ii, bGt_ii, bLe_ii, bEq_ii, bNe_ii, bInt_i, bLen_l, bLen_d, bLen_ro, bLen_t, bList_l, bList_d, bList_ro, bList_t, bTuple_l, bTuple_d, bTuple_t, uAppend_one, uInsert_one, uPopAt_one, outs, aHas, aNo, aOne, aOr, bIx_l, bIx_d, bIx_t, bIx_ro, bTru, atI_lit, ixN_lit, bSl_l, bSl_d, bSl_ro, isi_l, isi_d, isi_t, isi_i, isi_b, isi_s, isi_n, Rs.env_ok, fSeq_l, fSeq_d, fSeq_ro, fSeq_t, fZip_ll, fZip_ld, fZip_dl, fZip_dd, fZip_tt, fEnum_l, fEnum_d, bIsN_of, bNotN_of, isNon_i, isNon_b, isNon_s, isNon_l, isNon_t, isNon_n, Tn.any, Tn.sub, eq_self, Bool.or_self, Bool.and_self, Bool.or_false, ne_eq, not_true, not_false_eq_true, and_self, and_true, true_and, opsFree, List.all_cons, List.all_nil, bEq_bb, bEq_ss, bNe_bb, bNe_ss, Bool.and_true, Bool.not_true, Bool.not_false, Bool.false_eq_true, List.any_cons, List.any_nil, Nat.reduceBEq, Bool.or_false, Bool.or_true, Bool.false_or, Bool.true_and, Bool.false_and, wipeE, unwipeE, k2]
end NS
namespace NS
open PySem L2 LA
/-! ### rows of numbers -/
def dR (r : Row) : D := .lst (r.map D.int)
def dM (rows : List Row) : List D := rows.map dR
theorem zip_ints {r ch : Row} {d : D} (h : d ∈ zipD (r.map D.int) (ch.map D.int)) : ∃ x ∈ r, ∃ y ∈ ch, d = .tup [.int x, .int y] := by
  unfold zipD at h
  induction r generalizing ch with
  | nil => simp at h
  | cons a r ih =>
    cases ch with
    | nil => simp at h
    | cons c s =>
      simp only [List.map_cons, List.zipWith_cons_cons, List.mem_cons] at h
      rcases h with h | h
      · exact ⟨a, List.mem_cons_self, c, List.mem_cons_self, h⟩
      · obtain ⟨x, h1, y, h2, h3⟩ := ih h
        exact ⟨x, List.mem_cons_of_mem _ h1, y, List.mem_cons_of_mem _ h2, h3⟩
def onPair (f : Int → Int → Int) : D → Option D
  | .tup [.int x, .int y] => some (.int (f x y))
  | _ => none
theorem fm_zip (f : Int → Int → Int) (r ch : Row) : (zipD (r.map D.int) (ch.map D.int)).filterMap (onPair f) = (List.zipWith f r ch).map D.int := by
  unfold zipD
  induction r generalizing ch with
  | nil => simp
  | cons a r ih =>
    cases ch with
    | nil => simp
    | cons c s =>
      simp only [List.map_cons, List.zipWith_cons_cons]
      rw [List.filterMap_cons_some (f := onPair f) (b := D.int (f a c)) rfl, ih]
theorem zip_len2 (a b : List D) : (zipD a b).length ≤ a.length := by unfold zipD; rw [List.length_zipWith]; omega
theorem at0_of {r : Row} {c : Nat} (h : c < r.length) : atI (r.map D.int) (c : Int) = some (.int (at0 r c)) := by
  rw [atI_nat, List.getElem?_map, List.getElem?_eq_getElem h, at0_lt h]; rfl
def Fits (x : Int) : Prop := x.natAbs ≤ 2 ^ 400000
theorem Fits.mul {x y : Int} (h : Fits x) (h' : Fits y) : CMulW x y := L2.wide_mul (a := 400001) (b := 400001) (Nat.lt_of_le_of_lt h (Nat.pow_lt_pow_right (by decide) (by decide))) (Nat.lt_of_le_of_lt h' (Nat.pow_lt_pow_right (by decide) (by decide))) (by decide) (by decide) (by decide)
theorem bMul_f {x y : Int} (h : CMulW x y) : bMul (.d (.int x)) (.d (.int y)) = some (.d (.int (x * y))) := by rw [bMul_ii, if_pos h]
theorem bFdiv_f {x y : Int} (h : CDivA x y) : bFdiv (.d (.int x)) (.d (.int y)) = some (.d (.int (x.fdiv y))) := by rw [bFdiv_ii, if_pos h]
theorem cleared_ok {r ch : Row} {n c : Nat} {b : Int} (h1 : r.length = n) (h2 : ch.length = n) (hn : n ≤ 1000) (hc : c < n) (h3 : ∀ j, Fits (at0 r j)) (h4 : ∀ j, Fits (at0 ch j)) (hb : b ≠ 0) (hb2 : b.natAbs.log2 < 9000) :
    m_cleared [.d (dR r), .d (dR ch), .d (.int c), .d (.int b)] = .ok (.d (dR (clr r ch c b))) [some (.d (dR r)), some (.d (dR ch)), some (.d (.int c)), some (.d (.int b))] := by
  have q1 := at0_of (r := ch) (c := c) (by omega)
  have q2 := at0_of (r := r) (c := c) (by omega)
  have fx : ∀ x ∈ r, Fits x := fun x hx => by
    obtain ⟨i, hi, rfl⟩ := List.getElem_of_mem hx
    rw [← at0_lt hi]; exact h3 i
  have fy : ∀ x ∈ ch, Fits x := fun x hx => by
    obtain ⟨i, hi, rfl⟩ := List.getElem_of_mem hx
    rw [← at0_lt hi]; exact h4 i
  have key : mb_cleared ([.d (dR r), .d (dR ch), .d (.int c), .d (.int b)].map some ++ List.replicate (8 - 4) none) = .ok (.rt (.d (dR (clr r ch c b)))) [some (.d (dR r)), some (.d (dR ch)), some (.d (.int c)), some (.d (.int b)), some (.d (.int (at0 ch c))), some (.d (.int (at0 r c))), none, none] := by
    have cs := comp_map (vs := [6, 7]) (g := gTup' 2 (gCons' (gN 6) (gCons' (gN 7) gNil'))) (t := mYes) (m := (mED (mOp2 bFdiv (mEO (mOp2 bSub (mEO (mOp2 bMul (mPk 4) (mPk 6))) (mEO (mOp2 bMul (mPk 5) (mPk 7))))) (mPk 3))))
      (e := [some (.d (dR r)), some (.d (dR ch)), some (.d (.int c)), some (.d (.int b)), some (.d (.int (at0 ch c))), some (.d (.int (at0 r c))), none, none]) (onPair fun x y => (at0 ch c * x - at0 r c * y).fdiv b) (zipD (r.map D.int) (ch.map D.int)) [] (fun d hd => by
        obtain ⟨x, hx, y, hy, rfl⟩ := zip_ints hd
        have m1 := bMul_f ((h4 c).mul (fx x hx))
        have m2 := bMul_f ((h3 c).mul (fy y hy))
        have m3 := bFdiv_f (x := at0 ch c * x - at0 r c * y) (y := b) ⟨hb, hb2⟩
        simp only [p_stepC, p_stepF, p_seq, p_asg, p_drop, p_ret, p_pass, p_break, p_cont, p_ifs, p_if, p_de, p_ed, p_eo, p_do, p_use, p_move, p_pk, p_c, p_op2, p_op1, p_b, p_andT, p_orT, p_notT, p_tru, p_andV, p_orV, p_notV, p_aug, p_par, p_lst, p_tup, p_upd, p_isN, p_notN, p_isi, p_sl, p_inone, p_isome, p_cb, p_call, p_callk, p_anil, p_acons, p_dnil, p_dcons, p_enil, p_econs, p_yes, p_gn, p_gnil, p_gcons, p_gtup, p_gsub, p_cres, n_crT, n_cr2, takeOps, putOps, isOwnL, n_f1, atAll, Op.at, Rs.map_ok, n_bind, n_ap1, n_ap2, n_apL, Rs.bind_exc, Rs.bind_bad, n_of, Rs.of_none, Option.bind_some, Option.bind_none, Option.join_some, Option.map_some,
  List.getElem?_cons_zero, List.getElem?_cons_succ, List.getElem?_nil, List.set_cons_zero, List.set_cons_succ, List.length_cons, List.length_nil, T.toD, bl?_d, Nat.zero_lt_succ, Nat.succ_lt_succ_iff, if_true, if_false, reduceIte, reduceCtorEq, List.map_cons, List.map_nil, List.cons_append, List.nil_append, List.replicate_succ, List.replicate_zero, Nat.reduceAdd, Nat.reduceSub, Nat.reduceLT, Nat.reduceLeDiff, Nat.reduceEqDiff, bAdd_ii, bSub_ii, bMul_small, bMod_pos, bFdiv_pos, bPow_small, Int.reduceToNat, Int.reducePow, decide_eq_true_eq, decide_true, decide_false, bLt_ii, bGe_ii, bGt_ii, bLe_ii, bEq_ii, bNe_ii, bInt_i, bLen_l, bLen_d, bLen_ro, bLen_t, bList_l, bList_d, bList_ro, bList_t, bTuple_l, bTuple_d, bTuple_t, uAppend_one, uInsert_one, uPopAt_one, outs, aHas, aNo, aOne, aOr, bIx_l, bIx_d, bIx_t, bIx_ro, bTru, atI_lit, ixN_lit, bSl_l, bSl_d, bSl_ro, isi_l, isi_d, isi_t, isi_i, isi_b, isi_s, isi_n, Rs.env_ok, fSeq_l, fSeq_d, fSeq_ro, fSeq_t, fZip_ll, fZip_ld, fZip_dl, fZip_dd, fZip_tt, fEnum_l, fEnum_d, bIsN_of, bNotN_of, isNon_i, isNon_b, isNon_s, isNon_l, isNon_t, isNon_n, Tn.any, Tn.sub, eq_self, Bool.or_self, Bool.and_self, Bool.or_false, ne_eq, not_true, not_false_eq_true, and_self, and_true, true_and, opsFree, List.all_cons, List.all_nil, bEq_bb, bEq_ss, bNe_bb, bNe_ss, Bool.and_true, Bool.not_true, Bool.not_false, Bool.false_eq_true, List.any_cons, List.any_nil, Nat.reduceBEq, Bool.or_false, Bool.or_true, Bool.false_or, Bool.true_and, Bool.false_and, wipeE, unwipeE, m1, m2, m3, onPair]) (by
        have := zip_len2 (r.map D.int) (ch.map D.int)
        rw [List.length_map] at this
        rw [sizeLine_val]
        simp only [List.length_nil]; omega)
    rw [List.nil_append, fm_zip] at cs
    unfold mb_cleared q_cleared_0 q_cleared_1 q_cleared_2
    unfold dR at *
    simp only [p_stepC, p_stepF, p_seq, p_asg, p_drop, p_ret, p_pass, p_break, p_cont, p_ifs, p_if, p_de, p_ed, p_eo, p_do, p_use, p_move, p_pk, p_c, p_op2, p_op1, p_b, p_andT, p_orT, p_notT, p_tru, p_andV, p_orV, p_notV, p_aug, p_par, p_lst, p_tup, p_upd, p_isN, p_notN, p_isi, p_sl, p_inone, p_isome, p_cb, p_call, p_callk, p_anil, p_acons, p_dnil, p_dcons, p_enil, p_econs, p_yes, p_gn, p_gnil, p_gcons, p_gtup, p_gsub, p_cres, n_crT, n_cr2, takeOps, putOps, isOwnL, n_f1, atAll, Op.at, Rs.map_ok, n_bind, n_ap1, n_ap2, n_apL, Rs.bind_exc, Rs.bind_bad, n_of, Rs.of_none, Option.bind_some, Option.bind_none, Option.join_some, Option.map_some,
  List.getElem?_cons_zero, List.getElem?_cons_succ, List.getElem?_nil, List.set_cons_zero, List.set_cons_succ, List.length_cons, List.length_nil, T.toD, bl?_d, Nat.zero_lt_succ, Nat.succ_lt_succ_iff, if_true, if_false, reduceIte, reduceCtorEq, List.map_cons, List.map_nil, List.cons_append, List.nil_append, List.replicate_succ, List.replicate_zero, Nat.reduceAdd, Nat.reduceSub, Nat.reduceLT, Nat.reduceLeDiff, Nat.reduceEqDiff, bAdd_ii, bSub_ii, bMul_small, bMod_pos, bFdiv_pos, bPow_small, Int.reduceToNat, Int.reducePow, decide_eq_true_eq, decide_true, decide_false, bLt_ii, bGe_ii, bGt_ii, bLe_ii, bEq_ii, bNe_ii, bInt_i, bLen_l, bLen_d, bLen_ro, bLen_t, bList_l, bList_d, bList_ro, bList_t, bTuple_l, bTuple_d, bTuple_t, uAppend_one, uInsert_one, uPopAt_one, outs, aHas, aNo, aOne, aOr, bIx_l, bIx_d, bIx_t, bIx_ro, bTru, atI_lit, ixN_lit, bSl_l, bSl_d, bSl_ro, isi_l, isi_d, isi_t, isi_i, isi_b, isi_s, isi_n, Rs.env_ok, fSeq_l, fSeq_d, fSeq_ro, fSeq_t, fZip_ll, fZip_ld, fZip_dl, fZip_dd, fZip_tt, fEnum_l, fEnum_d, bIsN_of, bNotN_of, isNon_i, isNon_b, isNon_s, isNon_l, isNon_t, isNon_n, Tn.any, Tn.sub, eq_self, Bool.or_self, Bool.and_self, Bool.or_false, ne_eq, not_true, not_false_eq_true, and_self, and_true, true_and, opsFree, List.all_cons, List.all_nil, bEq_bb, bEq_ss, bNe_bb, bNe_ss, Bool.and_true, Bool.not_true, Bool.not_false, Bool.false_eq_true, List.any_cons, List.any_nil, Nat.reduceBEq, Bool.or_false, Bool.or_true, Bool.false_or, Bool.true_and, Bool.false_and, wipeE, unwipeE, q1, q2, p_comp, cs]
    rfl
  unfold m_cleared
  exact Eq.trans (fn_ret (by rfl) key) (by rfl)
end NS
namespace NS
open PySem L2 LA
theorem dM_len (rows : List Row) : (dM rows).length = rows.length := by unfold dM; simp
theorem dM_at {rows : List Row} {i : Nat} (h : i < rows.length) : (dM rows)[i]? = some (dR rows[i]) := by unfold dM; rw [List.getElem?_map, List.getElem?_eq_getElem h]; rfl
theorem dM_atI {rows : List Row} {i : Nat} (h : i < rows.length) : atI (dM rows) (i : Int) = some (dR rows[i]) := by rw [atI_nat, dM_at h]
def enumW (rest : List Row) (i : Nat) : D := .tup [.int (i : Int), dR (rest.getD i [])]
theorem enum_eq (rest : List Row) : List.zipWith (fun x y => D.tup [x, y]) (rangeD 0 (dM rest).length) (dM rest) = (List.range rest.length).map (enumW rest) := by
  rw [dM_len]
  apply List.ext_getElem?
  intro i
  rw [List.getElem?_zipWith, List.getElem?_map]
  by_cases h : i < rest.length
  · rw [rangeD_get 0 _ i h, dM_at h, List.getElem?_range h]
    simp [enumW, List.getD_eq_getElem?_getD, List.getElem?_eq_getElem h]
  · have h1 : (rangeD 0 rest.length)[i]? = none := List.getElem?_eq_none (by rw [rangeD_len]; omega)
    have h2 : (List.range rest.length)[i]? = none := List.getElem?_eq_none (by rw [List.length_range]; omega)
    rw [h1, h2]; rfl
def placesOf (rest : List Row) (k : Nat) : List D := (List.range rest.length).filterMap fun i => if at0 (rest.getD i []) k = 0 then none else some (.int (i : Int))
theorem places_nil {rest : List Row} {k : Nat} (h : placesOf rest k = []) : ∀ r ∈ rest, at0 r k = 0 := fun r hr => by
  obtain ⟨i, hi, rfl⟩ := List.getElem_of_mem hr
  have := List.filterMap_eq_nil_iff.mp h i (List.mem_range.mpr hi)
  rw [List.getD_eq_getElem?_getD, List.getElem?_eq_getElem hi] at this
  by_cases z : at0 rest[i] k = 0
  · exact z
  · simp [z] at this
theorem places_cons {rest : List Row} {k : Nat} {d : D} {tl : List D} (h : placesOf rest k = d :: tl) : ∃ p, ∃ hp : p < rest.length, d = .int (p : Int) ∧ at0 rest[p] k ≠ 0 := by
  have hd : d ∈ placesOf rest k := by rw [h]; exact List.mem_cons_self
  obtain ⟨i, hi, e⟩ := List.mem_filterMap.mp hd
  have hi := List.mem_range.mp hi
  rw [List.getD_eq_getElem?_getD, List.getElem?_eq_getElem hi] at e
  by_cases z : at0 rest[i] k = 0
  · simp [z] at e
  · simp [z] at e
    exact ⟨i, hi, e.symm, z⟩
theorem places_len (rest : List Row) (k : Nat) : (placesOf rest k).length ≤ rest.length := by
  have := List.length_filterMap_le (fun i => if at0 (rest.getD i []) k = 0 then none else some (D.int (i : Int))) (List.range rest.length)
  rw [List.length_range] at this
  exact this
/-- the columns' places -/
theorem places_go {rest : List Row} {n k : Nat} (hl : ∀ r ∈ rest, r.length = n) (hk : k < n) (hs : rest.length ≤ 1000) (a b o3 o4 o6 o8 o9 : Option T) :
    compGo [7, 2] (gTup' 2 (gCons' (gN 7) (gCons' (gN 2) gNil'))) (mB (mOp2 bNe (mEO (mOp2 bIx (mPk 2) (mPk 5))) (mDO (mC (.int 0))))) (mUse 7) ((List.range rest.length).map (enumW rest)) [a, b, none, o3, o4, some (.d (.int (k : Int))), o6, none, o8, o9] [] = .ok (placesOf rest k) [a, b, none, o3, o4, some (.d (.int (k : Int))), o6, none, o8, o9] := by
  refine (comp_mapW (enumW rest) (fun i => if at0 (rest.getD i []) k = 0 then none else some (.int (i : Int))) (List.range rest.length) [] (fun i hi => ?_) (by rw [List.length_range, sizeLine_val]; simp only [List.length_nil]; omega)).trans (by rw [List.nil_append]; rfl)
  have hi := List.mem_range.mp hi
  have hr : (rest.getD i []).length = n := by rw [List.getD_eq_getElem?_getD, List.getElem?_eq_getElem hi]; exact hl _ (List.getElem_mem hi)
  have q := at0_of (r := rest.getD i []) (c := k) (by omega)
  unfold enumW dR
  generalize rest.getD i [] = r at *
  by_cases z : at0 r k = 0
  · simp only [p_stepC, p_stepF, p_seq, p_asg, p_drop, p_ret, p_pass, p_break, p_cont, p_ifs, p_if, p_de, p_ed, p_eo, p_do, p_use, p_move, p_pk, p_c, p_op2, p_op1, p_b, p_andT, p_orT, p_notT, p_tru, p_andV, p_orV, p_notV, p_aug, p_par, p_lst, p_tup, p_upd, p_isN, p_notN, p_isi, p_sl, p_inone, p_isome, p_cb, p_call, p_callk, p_anil, p_acons, p_dnil, p_dcons, p_enil, p_econs, p_yes, p_gn, p_gnil, p_gcons, p_gtup, p_gsub, p_cres, n_crT, n_cr2, takeOps, putOps, isOwnL, n_f1, atAll, Op.at, Rs.map_ok, n_bind, n_ap1, n_ap2, n_apL, Rs.bind_exc, Rs.bind_bad, n_of, Rs.of_none, Option.bind_some, Option.bind_none, Option.join_some, Option.map_some,
  List.getElem?_cons_zero, List.getElem?_cons_succ, List.getElem?_nil, List.set_cons_zero, List.set_cons_succ, List.length_cons, List.length_nil, T.toD, bl?_d, Nat.zero_lt_succ, Nat.succ_lt_succ_iff, if_true, if_false, reduceIte, reduceCtorEq, List.map_cons, List.map_nil, List.cons_append, List.nil_append, List.replicate_succ, List.replicate_zero, Nat.reduceAdd, Nat.reduceSub, Nat.reduceLT, Nat.reduceLeDiff, Nat.reduceEqDiff, bAdd_ii, bSub_ii, bMul_small, bMod_pos, bFdiv_pos, bPow_small, Int.reduceToNat, Int.reducePow, decide_eq_true_eq, decide_true, decide_false, bLt_ii, bGe_ii, bGt_ii, bLe_ii, bEq_ii, bNe_ii, bInt_i, bLen_l, bLen_d, bLen_ro, bLen_t, bList_l, bList_d, bList_ro, bList_t, bTuple_l, bTuple_d, bTuple_t, uAppend_one, uInsert_one, uPopAt_one, outs, aHas, aNo, aOne, aOr, bIx_l, bIx_d, bIx_t, bIx_ro, bTru, atI_lit, ixN_lit, bSl_l, bSl_d, bSl_ro, isi_l, isi_d, isi_t, isi_i, isi_b, isi_s, isi_n, Rs.env_ok, fSeq_l, fSeq_d, fSeq_ro, fSeq_t, fZip_ll, fZip_ld, fZip_dl, fZip_dd, fZip_tt, fEnum_l, fEnum_d, bIsN_of, bNotN_of, isNon_i, isNon_b, isNon_s, isNon_l, isNon_t, isNon_n, Tn.any, Tn.sub, eq_self, Bool.or_self, Bool.and_self, Bool.or_false, ne_eq, not_true, not_false_eq_true, and_self, and_true, true_and, opsFree, List.all_cons, List.all_nil, bEq_bb, bEq_ss, bNe_bb, bNe_ss, Bool.and_true, Bool.not_true, Bool.not_false, Bool.false_eq_true, List.any_cons, List.any_nil, Nat.reduceBEq, Bool.or_false, Bool.or_true, Bool.false_or, Bool.true_and, Bool.false_and, wipeE, unwipeE, q, z]
  · simp only [p_stepC, p_stepF, p_seq, p_asg, p_drop, p_ret, p_pass, p_break, p_cont, p_ifs, p_if, p_de, p_ed, p_eo, p_do, p_use, p_move, p_pk, p_c, p_op2, p_op1, p_b, p_andT, p_orT, p_notT, p_tru, p_andV, p_orV, p_notV, p_aug, p_par, p_lst, p_tup, p_upd, p_isN, p_notN, p_isi, p_sl, p_inone, p_isome, p_cb, p_call, p_callk, p_anil, p_acons, p_dnil, p_dcons, p_enil, p_econs, p_yes, p_gn, p_gnil, p_gcons, p_gtup, p_gsub, p_cres, n_crT, n_cr2, takeOps, putOps, isOwnL, n_f1, atAll, Op.at, Rs.map_ok, n_bind, n_ap1, n_ap2, n_apL, Rs.bind_exc, Rs.bind_bad, n_of, Rs.of_none, Option.bind_some, Option.bind_none, Option.join_some, Option.map_some,
  List.getElem?_cons_zero, List.getElem?_cons_succ, List.getElem?_nil, List.set_cons_zero, List.set_cons_succ, List.length_cons, List.length_nil, T.toD, bl?_d, Nat.zero_lt_succ, Nat.succ_lt_succ_iff, if_true, if_false, reduceIte, reduceCtorEq, List.map_cons, List.map_nil, List.cons_append, List.nil_append, List.replicate_succ, List.replicate_zero, Nat.reduceAdd, Nat.reduceSub, Nat.reduceLT, Nat.reduceLeDiff, Nat.reduceEqDiff, bAdd_ii, bSub_ii, bMul_small, bMod_pos, bFdiv_pos, bPow_small, Int.reduceToNat, Int.reducePow, decide_eq_true_eq, decide_true, decide_false, bLt_ii, bGe_ii, bGt_ii, bLe_ii, bEq_ii, bNe_ii, bInt_i, bLen_l, bLen_d, bLen_ro, bLen_t, bList_l, bList_d, bList_ro, bList_t, bTuple_l, bTuple_d, bTuple_t, uAppend_one, uInsert_one, uPopAt_one, outs, aHas, aNo, aOne, aOr, bIx_l, bIx_d, bIx_t, bIx_ro, bTru, atI_lit, ixN_lit, bSl_l, bSl_d, bSl_ro, isi_l, isi_d, isi_t, isi_i, isi_b, isi_s, isi_n, Rs.env_ok, fSeq_l, fSeq_d, fSeq_ro, fSeq_t, fZip_ll, fZip_ld, fZip_dl, fZip_dd, fZip_tt, fEnum_l, fEnum_d, bIsN_of, bNotN_of, isNon_i, isNon_b, isNon_s, isNon_l, isNon_t, isNon_n, Tn.any, Tn.sub, eq_self, Bool.or_self, Bool.and_self, Bool.or_false, ne_eq, not_true, not_false_eq_true, and_self, and_true, true_and, opsFree, List.all_cons, List.all_nil, bEq_bb, bEq_ss, bNe_bb, bNe_ss, Bool.and_true, Bool.not_true, Bool.not_false, Bool.false_eq_true, List.any_cons, List.any_nil, Nat.reduceBEq, Bool.or_false, Bool.or_true, Bool.false_or, Bool.true_and, Bool.false_and, wipeE, unwipeE, q, z]
theorem others_eq {rest : List Row} {p : Nat} : cutD (dM rest) none (some (p : Int)) ++ cutD (dM rest) (some ((p : Int) + 1)) none = dM (rest.eraseIdx p) := by
  rw [cut_to (by omega), cut_from (by omega), show ((p : Int) + 1).toNat = p + 1 by omega, Int.toNat_natCast]
  unfold dM
  rw [List.eraseIdx_eq_take_drop_succ, List.map_append, List.map_take, List.map_drop]
theorem fits_of {x : Int} {e k : Nat} (h : x.natAbs ≤ 2 ^ ((e + 3) * k)) (he : e ≤ 1000) (hk : k ≤ 8) : Fits x := Nat.le_trans h (Nat.pow_le_pow_right (by decide) (by
  have : (e + 3) * k ≤ 1003 * 8 := Nat.mul_le_mul (by omega) hk
  omega))
theorem log_of {x : Int} {e k : Nat} (h0 : x ≠ 0) (h : x.natAbs ≤ 2 ^ ((e + 3) * k)) (he : e ≤ 1000) (hk : k ≤ 8) : x.natAbs.log2 < 9000 := by
  rw [Nat.log2_lt (by omega)]
  refine Nat.lt_of_le_of_lt h (Nat.pow_lt_pow_right (by decide) ?_)
  have : (e + 3) * k ≤ 1003 * 8 := Nat.mul_le_mul (by omega) hk
  omega
/-- the rest, cleared -/
theorem clear_go {rest : List Row} {n e k c : Nat} {b : Int} (S : Sb n e k b rest) (he : e ≤ 1000) (hk : k + 1 ≤ 8) (hc : c < n) (hn : n ≤ 1000) {p : Nat} (hp : p < rest.length) (hs : rest.length ≤ 1000) (a a1 o4 o6 o7 o9 : Option T) :
    compGo [2] (gN 2) mYes (mED (mCall m_cleared (aCons (mPk 2) (aCons (mPk 8) (aCons (mPk 5) (aCons (mPk 3) aNil)))))) (dM (rest.eraseIdx p)) [a, a1, none, some (.d (.int b)), o4, some (.d (.int (c : Int))), o6, o7, some (.d (dR rest[p])), o9] [] = .ok (dM ((rest.eraseIdx p).map fun r => clr r rest[p] c b)) [a, a1, none, some (.d (.int b)), o4, some (.d (.int (c : Int))), o6, o7, some (.d (dR rest[p])), o9] := by
  refine (comp_mapW dR (fun r => some (dR (clr r rest[p] c b))) (rest.eraseIdx p) [] (fun r hr => ?_) (by rw [List.length_eraseIdx_of_lt hp, sizeLine_val]; simp only [List.length_nil]; omega)).trans (by rw [List.nil_append, filterMap_all]; unfold dM; rw [List.map_map]; rfl)
  have hr' := List.mem_of_mem_eraseIdx hr
  have c := cleared_ok (r := r) (ch := rest[p]) (n := n) (c := c) (b := b) (S.len r hr') (S.len _ (List.getElem_mem hp)) hn hc (fun j => fits_of (S.entry hk hr' j) he hk) (fun j => fits_of (S.entry hk (List.getElem_mem hp) j) he hk) S.b0 (log_of S.b0 (S.below (by omega)) he (by omega))
  simp only [p_stepC, p_stepF, p_seq, p_asg, p_drop, p_ret, p_pass, p_break, p_cont, p_ifs, p_if, p_de, p_ed, p_eo, p_do, p_use, p_move, p_pk, p_c, p_op2, p_op1, p_b, p_andT, p_orT, p_notT, p_tru, p_andV, p_orV, p_notV, p_aug, p_par, p_lst, p_tup, p_upd, p_isN, p_notN, p_isi, p_sl, p_inone, p_isome, p_cb, p_call, p_callk, p_anil, p_acons, p_dnil, p_dcons, p_enil, p_econs, p_yes, p_gn, p_gnil, p_gcons, p_gtup, p_gsub, p_cres, n_crT, n_cr2, takeOps, putOps, isOwnL, n_f1, atAll, Op.at, Rs.map_ok, n_bind, n_ap1, n_ap2, n_apL, Rs.bind_exc, Rs.bind_bad, n_of, Rs.of_none, Option.bind_some, Option.bind_none, Option.join_some, Option.map_some,
  List.getElem?_cons_zero, List.getElem?_cons_succ, List.getElem?_nil, List.set_cons_zero, List.set_cons_succ, List.length_cons, List.length_nil, T.toD, bl?_d, Nat.zero_lt_succ, Nat.succ_lt_succ_iff, if_true, if_false, reduceIte, reduceCtorEq, List.map_cons, List.map_nil, List.cons_append, List.nil_append, List.replicate_succ, List.replicate_zero, Nat.reduceAdd, Nat.reduceSub, Nat.reduceLT, Nat.reduceLeDiff, Nat.reduceEqDiff, bAdd_ii, bSub_ii, bMul_small, bMod_pos, bFdiv_pos, bPow_small, Int.reduceToNat, Int.reducePow, decide_eq_true_eq, decide_true, decide_false, bLt_ii, bGe_ii, bGt_ii, bLe_ii, bEq_ii, bNe_ii, bInt_i, bLen_l, bLen_d, bLen_ro, bLen_t, bList_l, bList_d, bList_ro, bList_t, bTuple_l, bTuple_d, bTuple_t, uAppend_one, uInsert_one, uPopAt_one, outs, aHas, aNo, aOne, aOr, bIx_l, bIx_d, bIx_t, bIx_ro, bTru, atI_lit, ixN_lit, bSl_l, bSl_d, bSl_ro, isi_l, isi_d, isi_t, isi_i, isi_b, isi_s, isi_n, Rs.env_ok, fSeq_l, fSeq_d, fSeq_ro, fSeq_t, fZip_ll, fZip_ld, fZip_dl, fZip_dd, fZip_tt, fEnum_l, fEnum_d, bIsN_of, bNotN_of, isNon_i, isNon_b, isNon_s, isNon_l, isNon_t, isNon_n, Tn.any, Tn.sub, eq_self, Bool.or_self, Bool.and_self, Bool.or_false, ne_eq, not_true, not_false_eq_true, and_self, and_true, true_and, opsFree, List.all_cons, List.all_nil, bEq_bb, bEq_ss, bNe_bb, bNe_ss, Bool.and_true, Bool.not_true, Bool.not_false, Bool.false_eq_true, List.any_cons, List.any_nil, Nat.reduceBEq, Bool.or_false, Bool.or_true, Bool.false_or, Bool.true_and, Bool.false_and, wipeE, unwipeE, c]
end NS
namespace NS
open PySem L2 LA
def intsFrom (k m : Nat) : List D := (List.range' k m).map fun (i : Nat) => D.int (i : Int)
theorem rangeD_from (n : Nat) : rangeD 0 n = intsFrom 0 n := by
  unfold rangeD intsFrom
  rw [List.range_eq_range']
  exact List.map_congr_left fun i _ => by rw [Int.zero_add]
theorem intsFrom_succ (k m : Nat) : intsFrom k (m + 1) = .int (k : Int) :: intsFrom (k + 1) m := by unfold intsFrom; rw [List.range'_succ]; rfl
theorem atI_zero {α : Type} (d : α) (tl : List α) : (d :: tl)[0]? = some d := rfl
theorem det_body {rest : List Row} {n e k : Nat} {b s : Int} {M : Mx} (S : Sb n e k b rest) (Dd : Dt n k M b s rest) (he : e ≤ 1000) (hk : k < n) (hn : n ≤ 7) (t : T) (o5 o6 o8 o9 : Option T) :
    (∃ e', stepF (gN 5) b_determinant_7 (.int (k : Int)) [some t, some (.d (.lst (dM rest))), none, some (.d (.int b)), some (.d (.int s)), o5, o6, none, o8, o9] = .ok (.rt (.d (.int 0))) (some t :: e') ∧ det n M = 0) ∨
    (∃ rest' b' s' p5 p6 p8 p9, stepF (gN 5) b_determinant_7 (.int (k : Int)) [some t, some (.d (.lst (dM rest))), none, some (.d (.int b)), some (.d (.int s)), o5, o6, none, o8, o9] = .ok .nx [some t, some (.d (.lst (dM rest'))), none, some (.d (.int b')), some (.d (.int s')), p5, p6, none, p8, p9] ∧ Sb n e (k + 1) b' rest' ∧ Dt n (k + 1) M b' s' rest') := by
  have hlen : rest.length ≤ 7 := by have := Dd.len; omega
  have pg := fun a b o3 o4 o6 o8 o9 => places_go (rest := rest) (n := n) (k := k) S.len hk (by omega) a b o3 o4 o6 o8 o9
  unfold b_determinant_7 q_determinant_0 q_determinant_1 q_determinant_2 q_determinant_3 q_determinant_4 q_determinant_5 q_determinant_6
  cases hp : placesOf rest k with
  | nil =>
    left
    rw [hp] at pg
    refine ⟨[some (.d (.lst (dM rest))), none, some (.d (.int b)), some (.d (.int s)), some (.d (.int (k : Int))), some (.d (.lst [])), none, o8, o9], ?_, Dd.none S hk (places_nil hp)⟩
    simp only [p_stepC, p_stepF, p_seq, p_asg, p_drop, p_ret, p_pass, p_break, p_cont, p_ifs, p_if, p_de, p_ed, p_eo, p_do, p_use, p_move, p_pk, p_c, p_op2, p_op1, p_b, p_andT, p_orT, p_notT, p_tru, p_andV, p_orV, p_notV, p_aug, p_par, p_lst, p_tup, p_upd, p_isN, p_notN, p_isi, p_sl, p_inone, p_isome, p_cb, p_call, p_callk, p_anil, p_acons, p_dnil, p_dcons, p_enil, p_econs, p_yes, p_gn, p_gnil, p_gcons, p_gtup, p_gsub, p_cres, n_crT, n_cr2, takeOps, putOps, isOwnL, n_f1, atAll, Op.at, Rs.map_ok, n_bind, n_ap1, n_ap2, n_apL, Rs.bind_exc, Rs.bind_bad, n_of, Rs.of_none, Option.bind_some, Option.bind_none, Option.join_some, Option.map_some,
  List.getElem?_cons_zero, List.getElem?_cons_succ, List.getElem?_nil, List.set_cons_zero, List.set_cons_succ, List.length_cons, List.length_nil, T.toD, bl?_d, Nat.zero_lt_succ, Nat.succ_lt_succ_iff, if_true, if_false, reduceIte, reduceCtorEq, List.map_cons, List.map_nil, List.cons_append, List.nil_append, List.replicate_succ, List.replicate_zero, Nat.reduceAdd, Nat.reduceSub, Nat.reduceLT, Nat.reduceLeDiff, Nat.reduceEqDiff, bAdd_ii, bSub_ii, bMul_small, bMod_pos, bFdiv_pos, bPow_small, Int.reduceToNat, Int.reducePow, decide_eq_true_eq, decide_true, decide_false, bLt_ii, bGe_ii, bGt_ii, bLe_ii, bEq_ii, bNe_ii, bInt_i, bLen_l, bLen_d, bLen_ro, bLen_t, bList_l, bList_d, bList_ro, bList_t, bTuple_l, bTuple_d, bTuple_t, uAppend_one, uInsert_one, uPopAt_one, outs, aHas, aNo, aOne, aOr, bIx_l, bIx_d, bIx_t, bIx_ro, bTru, atI_lit, ixN_lit, bSl_l, bSl_d, bSl_ro, isi_l, isi_d, isi_t, isi_i, isi_b, isi_s, isi_n, Rs.env_ok, fSeq_l, fSeq_d, fSeq_ro, fSeq_t, fZip_ll, fZip_ld, fZip_dl, fZip_dd, fZip_tt, fEnum_l, fEnum_d, bIsN_of, bNotN_of, isNon_i, isNon_b, isNon_s, isNon_l, isNon_t, isNon_n, Tn.any, Tn.sub, eq_self, Bool.or_self, Bool.and_self, Bool.or_false, ne_eq, not_true, not_false_eq_true, and_self, and_true, true_and, opsFree, List.all_cons, List.all_nil, bEq_bb, bEq_ss, bNe_bb, bNe_ss, Bool.and_true, Bool.not_true, Bool.not_false, Bool.false_eq_true, List.any_cons, List.any_nil, Nat.reduceBEq, Bool.or_false, Bool.or_true, Bool.false_or, Bool.true_and, Bool.false_and, wipeE, unwipeE, p_comp, enum_eq, pg, List.isEmpty_nil]
  | cons d tl =>
    right
    obtain ⟨p, hpl, rfl, h0⟩ := places_cons hp
    rw [hp] at pg
    have a1 := dM_atI hpl
    have a2 : atI ((rest[p]).map D.int) (k : Int) = some (.int (at0 rest[p] k)) := at0_of (by rw [S.len _ (List.getElem_mem hpl)]; exact hk)
    have cg := fun a a1 o4 o6 o7 o9 => clear_go (c := k) S he (by omega) hk (by omega) hpl (by omega) a a1 o4 o6 o7 o9
    have ls : (cutD (dM rest) none (some (p : Int))).length + (cutD (dM rest) (some ((p : Int) + 1)) none).length ≤ sizeLine := by
      rw [← List.length_append, others_eq, dM_len, erase_len hpl, sizeLine_val]; omega
    refine ⟨_, _, _, some (.d (.int (k : Int))), some (.d (.lst (.int (p : Int) :: tl))), some (.d (dR rest[p])), some (.d (.lst (dM (rest.eraseIdx p)))), ?_, S.step hpl h0, Dd.step S hpl h0⟩
    have em : ((p : Int) % 2 = 0) = (p % 2 = 0) := propext ⟨fun h => by omega, fun h => by omega⟩
    unfold dR at *
    by_cases hs : p % 2 = 0
    · simp (disch := omega) only [p_stepC, p_stepF, p_seq, p_asg, p_drop, p_ret, p_pass, p_break, p_cont, p_ifs, p_if, p_de, p_ed, p_eo, p_do, p_use, p_move, p_pk, p_c, p_op2, p_op1, p_b, p_andT, p_orT, p_notT, p_tru, p_andV, p_orV, p_notV, p_aug, p_par, p_lst, p_tup, p_upd, p_isN, p_notN, p_isi, p_sl, p_inone, p_isome, p_cb, p_call, p_callk, p_anil, p_acons, p_dnil, p_dcons, p_enil, p_econs, p_yes, p_gn, p_gnil, p_gcons, p_gtup, p_gsub, p_cres, n_crT, n_cr2, takeOps, putOps, isOwnL, n_f1, atAll, Op.at, Rs.map_ok, n_bind, n_ap1, n_ap2, n_apL, Rs.bind_exc, Rs.bind_bad, n_of, Rs.of_none, Option.bind_some, Option.bind_none, Option.join_some, Option.map_some,
  List.getElem?_cons_zero, List.getElem?_cons_succ, List.getElem?_nil, List.set_cons_zero, List.set_cons_succ, List.length_cons, List.length_nil, T.toD, bl?_d, Nat.zero_lt_succ, Nat.succ_lt_succ_iff, if_true, if_false, reduceIte, reduceCtorEq, List.map_cons, List.map_nil, List.cons_append, List.nil_append, List.replicate_succ, List.replicate_zero, Nat.reduceAdd, Nat.reduceSub, Nat.reduceLT, Nat.reduceLeDiff, Nat.reduceEqDiff, bAdd_ii, bSub_ii, bMul_small, bMod_pos, bFdiv_pos, bPow_small, Int.reduceToNat, Int.reducePow, decide_eq_true_eq, decide_true, decide_false, bLt_ii, bGe_ii, bGt_ii, bLe_ii, bEq_ii, bNe_ii, bInt_i, bLen_l, bLen_d, bLen_ro, bLen_t, bList_l, bList_d, bList_ro, bList_t, bTuple_l, bTuple_d, bTuple_t, uAppend_one, uInsert_one, uPopAt_one, outs, aHas, aNo, aOne, aOr, bIx_l, bIx_d, bIx_t, bIx_ro, bTru, atI_lit, ixN_lit, bSl_l, bSl_d, bSl_ro, isi_l, isi_d, isi_t, isi_i, isi_b, isi_s, isi_n, Rs.env_ok, fSeq_l, fSeq_d, fSeq_ro, fSeq_t, fZip_ll, fZip_ld, fZip_dl, fZip_dd, fZip_tt, fEnum_l, fEnum_d, bIsN_of, bNotN_of, isNon_i, isNon_b, isNon_s, isNon_l, isNon_t, isNon_n, Tn.any, Tn.sub, eq_self, Bool.or_self, Bool.and_self, Bool.or_false, ne_eq, not_true, not_false_eq_true, and_self, and_true, true_and, opsFree, List.all_cons, List.all_nil, bEq_bb, bEq_ss, bNe_bb, bNe_ss, Bool.and_true, Bool.not_true, Bool.not_false, Bool.false_eq_true, List.any_cons, List.any_nil, Nat.reduceBEq, Bool.or_false, Bool.or_true, Bool.false_or, Bool.true_and, Bool.false_and, wipeE, unwipeE, p_comp, enum_eq, pg, List.isEmpty_cons, a1, bAdd_ll, ls, others_eq, cg, a2, em, hs]
    · simp (disch := omega) only [p_stepC, p_stepF, p_seq, p_asg, p_drop, p_ret, p_pass, p_break, p_cont, p_ifs, p_if, p_de, p_ed, p_eo, p_do, p_use, p_move, p_pk, p_c, p_op2, p_op1, p_b, p_andT, p_orT, p_notT, p_tru, p_andV, p_orV, p_notV, p_aug, p_par, p_lst, p_tup, p_upd, p_isN, p_notN, p_isi, p_sl, p_inone, p_isome, p_cb, p_call, p_callk, p_anil, p_acons, p_dnil, p_dcons, p_enil, p_econs, p_yes, p_gn, p_gnil, p_gcons, p_gtup, p_gsub, p_cres, n_crT, n_cr2, takeOps, putOps, isOwnL, n_f1, atAll, Op.at, Rs.map_ok, n_bind, n_ap1, n_ap2, n_apL, Rs.bind_exc, Rs.bind_bad, n_of, Rs.of_none, Option.bind_some, Option.bind_none, Option.join_some, Option.map_some,
  List.getElem?_cons_zero, List.getElem?_cons_succ, List.getElem?_nil, List.set_cons_zero, List.set_cons_succ, List.length_cons, List.length_nil, T.toD, bl?_d, Nat.zero_lt_succ, Nat.succ_lt_succ_iff, if_true, if_false, reduceIte, reduceCtorEq, List.map_cons, List.map_nil, List.cons_append, List.nil_append, List.replicate_succ, List.replicate_zero, Nat.reduceAdd, Nat.reduceSub, Nat.reduceLT, Nat.reduceLeDiff, Nat.reduceEqDiff, bAdd_ii, bSub_ii, bMul_small, bMod_pos, bFdiv_pos, bPow_small, Int.reduceToNat, Int.reducePow, decide_eq_true_eq, decide_true, decide_false, bLt_ii, bGe_ii, bGt_ii, bLe_ii, bEq_ii, bNe_ii, bInt_i, bLen_l, bLen_d, bLen_ro, bLen_t, bList_l, bList_d, bList_ro, bList_t, bTuple_l, bTuple_d, bTuple_t, uAppend_one, uInsert_one, uPopAt_one, outs, aHas, aNo, aOne, aOr, bIx_l, bIx_d, bIx_t, bIx_ro, bTru, atI_lit, ixN_lit, bSl_l, bSl_d, bSl_ro, isi_l, isi_d, isi_t, isi_i, isi_b, isi_s, isi_n, Rs.env_ok, fSeq_l, fSeq_d, fSeq_ro, fSeq_t, fZip_ll, fZip_ld, fZip_dl, fZip_dd, fZip_tt, fEnum_l, fEnum_d, bIsN_of, bNotN_of, isNon_i, isNon_b, isNon_s, isNon_l, isNon_t, isNon_n, Tn.any, Tn.sub, eq_self, Bool.or_self, Bool.and_self, Bool.or_false, ne_eq, not_true, not_false_eq_true, and_self, and_true, true_and, opsFree, List.all_cons, List.all_nil, bEq_bb, bEq_ss, bNe_bb, bNe_ss, Bool.and_true, Bool.not_true, Bool.not_false, Bool.false_eq_true, List.any_cons, List.any_nil, Nat.reduceBEq, Bool.or_false, Bool.or_true, Bool.false_or, Bool.true_and, Bool.false_and, wipeE, unwipeE, p_comp, enum_eq, pg, List.isEmpty_cons, a1, bAdd_ll, ls, others_eq, cg, a2, em, hs, uNeg_i]
end NS
namespace NS
open PySem L2 LA
def dT (r : Row) : D := .tup (r.map D.int)
inductive RowsT : T → List Row → Prop where
  | l (rows : List Row) : RowsT (.l (dM rows)) rows
  | d (rows : List Row) : RowsT (.d (.lst (dM rows))) rows
  | t (rows : List Row) : RowsT (.d (.tup (rows.map dT))) rows
theorem copy_go {rows : List Row} (w : Row → D) (hw : w = dR ∨ w = dT) (hs : rows.length ≤ 1000) (a o1 o3 o4 o5 o6 o7 o8 o9 : Option T) :
    compGo [2] (gN 2) mYes (mED (mCB (f1 bList) (aCons (mPk 2) aNil))) (rows.map w) [a, o1, none, o3, o4, o5, o6, o7, o8, o9] [] = .ok (dM rows) [a, o1, none, o3, o4, o5, o6, o7, o8, o9] := by
  refine (comp_mapW w (fun r => some (dR r)) rows [] (fun r hr => ?_) (by rw [sizeLine_val]; simp only [List.length_nil]; omega)).trans (by rw [List.nil_append, filterMap_all]; rfl)
  rcases hw with rfl | rfl
  · unfold dR; simp only [p_stepC, p_stepF, p_seq, p_asg, p_drop, p_ret, p_pass, p_break, p_cont, p_ifs, p_if, p_de, p_ed, p_eo, p_do, p_use, p_move, p_pk, p_c, p_op2, p_op1, p_b, p_andT, p_orT, p_notT, p_tru, p_andV, p_orV, p_notV, p_aug, p_par, p_lst, p_tup, p_upd, p_isN, p_notN, p_isi, p_sl, p_inone, p_isome, p_cb, p_call, p_callk, p_anil, p_acons, p_dnil, p_dcons, p_enil, p_econs, p_yes, p_gn, p_gnil, p_gcons, p_gtup, p_gsub, p_cres, n_crT, n_cr2, takeOps, putOps, isOwnL, n_f1, atAll, Op.at, Rs.map_ok, n_bind, n_ap1, n_ap2, n_apL, Rs.bind_exc, Rs.bind_bad, n_of, Rs.of_none, Option.bind_some, Option.bind_none, Option.join_some, Option.map_some,
  List.getElem?_cons_zero, List.getElem?_cons_succ, List.getElem?_nil, List.set_cons_zero, List.set_cons_succ, List.length_cons, List.length_nil, T.toD, bl?_d, Nat.zero_lt_succ, Nat.succ_lt_succ_iff, if_true, if_false, reduceIte, reduceCtorEq, List.map_cons, List.map_nil, List.cons_append, List.nil_append, List.replicate_succ, List.replicate_zero, Nat.reduceAdd, Nat.reduceSub, Nat.reduceLT, Nat.reduceLeDiff, Nat.reduceEqDiff, bAdd_ii, bSub_ii, bMul_small, bMod_pos, bFdiv_pos, bPow_small, Int.reduceToNat, Int.reducePow, decide_eq_true_eq, decide_true, decide_false, bLt_ii, bGe_ii, bGt_ii, bLe_ii, bEq_ii, bNe_ii, bInt_i, bLen_l, bLen_d, bLen_ro, bLen_t, bList_l, bList_d, bList_ro, bList_t, bTuple_l, bTuple_d, bTuple_t, uAppend_one, uInsert_one, uPopAt_one, outs, aHas, aNo, aOne, aOr, bIx_l, bIx_d, bIx_t, bIx_ro, bTru, atI_lit, ixN_lit, bSl_l, bSl_d, bSl_ro, isi_l, isi_d, isi_t, isi_i, isi_b, isi_s, isi_n, Rs.env_ok, fSeq_l, fSeq_d, fSeq_ro, fSeq_t, fZip_ll, fZip_ld, fZip_dl, fZip_dd, fZip_tt, fEnum_l, fEnum_d, bIsN_of, bNotN_of, isNon_i, isNon_b, isNon_s, isNon_l, isNon_t, isNon_n, Tn.any, Tn.sub, eq_self, Bool.or_self, Bool.and_self, Bool.or_false, ne_eq, not_true, not_false_eq_true, and_self, and_true, true_and, opsFree, List.all_cons, List.all_nil, bEq_bb, bEq_ss, bNe_bb, bNe_ss, Bool.and_true, Bool.not_true, Bool.not_false, Bool.false_eq_true, List.any_cons, List.any_nil, Nat.reduceBEq, Bool.or_false, Bool.or_true, Bool.false_or, Bool.true_and, Bool.false_and, wipeE, unwipeE]
  · unfold dT dR; simp only [p_stepC, p_stepF, p_seq, p_asg, p_drop, p_ret, p_pass, p_break, p_cont, p_ifs, p_if, p_de, p_ed, p_eo, p_do, p_use, p_move, p_pk, p_c, p_op2, p_op1, p_b, p_andT, p_orT, p_notT, p_tru, p_andV, p_orV, p_notV, p_aug, p_par, p_lst, p_tup, p_upd, p_isN, p_notN, p_isi, p_sl, p_inone, p_isome, p_cb, p_call, p_callk, p_anil, p_acons, p_dnil, p_dcons, p_enil, p_econs, p_yes, p_gn, p_gnil, p_gcons, p_gtup, p_gsub, p_cres, n_crT, n_cr2, takeOps, putOps, isOwnL, n_f1, atAll, Op.at, Rs.map_ok, n_bind, n_ap1, n_ap2, n_apL, Rs.bind_exc, Rs.bind_bad, n_of, Rs.of_none, Option.bind_some, Option.bind_none, Option.join_some, Option.map_some,
  List.getElem?_cons_zero, List.getElem?_cons_succ, List.getElem?_nil, List.set_cons_zero, List.set_cons_succ, List.length_cons, List.length_nil, T.toD, bl?_d, Nat.zero_lt_succ, Nat.succ_lt_succ_iff, if_true, if_false, reduceIte, reduceCtorEq, List.map_cons, List.map_nil, List.cons_append, List.nil_append, List.replicate_succ, List.replicate_zero, Nat.reduceAdd, Nat.reduceSub, Nat.reduceLT, Nat.reduceLeDiff, Nat.reduceEqDiff, bAdd_ii, bSub_ii, bMul_small, bMod_pos, bFdiv_pos, bPow_small, Int.reduceToNat, Int.reducePow, decide_eq_true_eq, decide_true, decide_false, bLt_ii, bGe_ii, bGt_ii, bLe_ii, bEq_ii, bNe_ii, bInt_i, bLen_l, bLen_d, bLen_ro, bLen_t, bList_l, bList_d, bList_ro, bList_t, bTuple_l, bTuple_d, bTuple_t, uAppend_one, uInsert_one, uPopAt_one, outs, aHas, aNo, aOne, aOr, bIx_l, bIx_d, bIx_t, bIx_ro, bTru, atI_lit, ixN_lit, bSl_l, bSl_d, bSl_ro, isi_l, isi_d, isi_t, isi_i, isi_b, isi_s, isi_n, Rs.env_ok, fSeq_l, fSeq_d, fSeq_ro, fSeq_t, fZip_ll, fZip_ld, fZip_dl, fZip_dd, fZip_tt, fEnum_l, fEnum_d, bIsN_of, bNotN_of, isNon_i, isNon_b, isNon_s, isNon_l, isNon_t, isNon_n, Tn.any, Tn.sub, eq_self, Bool.or_self, Bool.and_self, Bool.or_false, ne_eq, not_true, not_false_eq_true, and_self, and_true, true_and, opsFree, List.all_cons, List.all_nil, bEq_bb, bEq_ss, bNe_bb, bNe_ss, Bool.and_true, Bool.not_true, Bool.not_false, Bool.false_eq_true, List.any_cons, List.any_nil, Nat.reduceBEq, Bool.or_false, Bool.or_true, Bool.false_or, Bool.true_and, Bool.false_and, wipeE, unwipeE]
theorem det_loop {n e : Nat} {M : Mx} (he : e ≤ 1000) (hn : n ≤ 7) (t : T) : ∀ (m k : Nat) (rest : List Row) (b s : Int) (o5 o6 o8 o9 : Option T), k + m = n → Sb n e k b rest → Dt n k M b s rest →
    (∃ e', forGo (gN 5) b_determinant_7 (intsFrom k m) [some t, some (.d (.lst (dM rest))), none, some (.d (.int b)), some (.d (.int s)), o5, o6, none, o8, o9] = .ok (.rt (.d (.int 0))) (some t :: e') ∧ det n M = 0) ∨
    (∃ rest' b' s' o5' o6' o8' o9', forGo (gN 5) b_determinant_7 (intsFrom k m) [some t, some (.d (.lst (dM rest))), none, some (.d (.int b)), some (.d (.int s)), o5, o6, none, o8, o9] = .ok .nx [some t, some (.d (.lst (dM rest'))), none, some (.d (.int b')), some (.d (.int s')), o5', o6', none, o8', o9'] ∧ s' * b' = det n M ∧ CMulW s' b')
  | 0, k, rest, b, s, o5, o6, o8, o9, hk, S, Dd => by
    right
    have : k = n := by omega
    subst this
    refine ⟨rest, b, s, o5, o6, o8, o9, rfl, Dd.done, Fits.mul ?_ (fits_of (S.below (by omega)) he (by omega))⟩
    have : s.natAbs ≤ 1 := by rcases Dd.s1 with h | h <;> rw [h] <;> decide
    exact Nat.le_trans this Nat.one_le_two_pow
  | m + 1, k, rest, b, s, o5, o6, o8, o9, hk, S, Dd => by
    rw [intsFrom_succ]
    rcases det_body S Dd he (by omega) hn t o5 o6 o8 o9 with ⟨e', h1, h2⟩ | ⟨rest', b', s', p5, p6, p8, p9, h1, S', D'⟩
    · exact .inl ⟨e', for_rt h1, h2⟩
    · rw [for_step h1]
      exact det_loop he hn t m (k + 1) rest' b' s' p5 p6 p8 p9 (by omega) S' D'
theorem bLen_rows {t : T} {rows : List Row} (ht : RowsT t rows) : bLen t = some (.d (.int rows.length)) := by
  cases ht
  · rw [bLen_l, dM_len]
  · rw [bLen_d, dM_len]
  · rw [bLen_t, List.length_map]
theorem fR1_nat {n : Nat} (h : n ≤ 1000) : fR1 [.d (.int (n : Int))] = some (intsFrom 0 n) := by
  rw [fR1_i, if_pos (by omega), Int.toNat_natCast, rangeD_from]
theorem det_copy {t : T} {rows : List Row} (ht : RowsT t rows) (hs : rows.length ≤ 1000) : q_determinant_8 [some t, none, none, none, none, none, none, none, none, none] = .ok .nx [some t, some (.d (.lst (dM rows))), none, none, none, none, none, none, none, none] := by
  have cg := fun w hw => copy_go (rows := rows) w hw hs
  have c1 := cg dR (.inl rfl)
  have c2 := cg dT (.inr rfl)
  unfold q_determinant_8
  unfold dM at *
  cases ht <;> (try unfold dM) <;> simp only [p_stepC, p_stepF, p_seq, p_asg, p_drop, p_ret, p_pass, p_break, p_cont, p_ifs, p_if, p_de, p_ed, p_eo, p_do, p_use, p_move, p_pk, p_c, p_op2, p_op1, p_b, p_andT, p_orT, p_notT, p_tru, p_andV, p_orV, p_notV, p_aug, p_par, p_lst, p_tup, p_upd, p_isN, p_notN, p_isi, p_sl, p_inone, p_isome, p_cb, p_call, p_callk, p_anil, p_acons, p_dnil, p_dcons, p_enil, p_econs, p_yes, p_gn, p_gnil, p_gcons, p_gtup, p_gsub, p_cres, n_crT, n_cr2, takeOps, putOps, isOwnL, n_f1, atAll, Op.at, Rs.map_ok, n_bind, n_ap1, n_ap2, n_apL, Rs.bind_exc, Rs.bind_bad, n_of, Rs.of_none, Option.bind_some, Option.bind_none, Option.join_some, Option.map_some,
  List.getElem?_cons_zero, List.getElem?_cons_succ, List.getElem?_nil, List.set_cons_zero, List.set_cons_succ, List.length_cons, List.length_nil, T.toD, bl?_d, Nat.zero_lt_succ, Nat.succ_lt_succ_iff, if_true, if_false, reduceIte, reduceCtorEq, List.map_cons, List.map_nil, List.cons_append, List.nil_append, List.replicate_succ, List.replicate_zero, Nat.reduceAdd, Nat.reduceSub, Nat.reduceLT, Nat.reduceLeDiff, Nat.reduceEqDiff, bAdd_ii, bSub_ii, bMul_small, bMod_pos, bFdiv_pos, bPow_small, Int.reduceToNat, Int.reducePow, decide_eq_true_eq, decide_true, decide_false, bLt_ii, bGe_ii, bGt_ii, bLe_ii, bEq_ii, bNe_ii, bInt_i, bLen_l, bLen_d, bLen_ro, bLen_t, bList_l, bList_d, bList_ro, bList_t, bTuple_l, bTuple_d, bTuple_t, uAppend_one, uInsert_one, uPopAt_one, outs, aHas, aNo, aOne, aOr, bIx_l, bIx_d, bIx_t, bIx_ro, bTru, atI_lit, ixN_lit, bSl_l, bSl_d, bSl_ro, isi_l, isi_d, isi_t, isi_i, isi_b, isi_s, isi_n, Rs.env_ok, fSeq_l, fSeq_d, fSeq_ro, fSeq_t, fZip_ll, fZip_ld, fZip_dl, fZip_dd, fZip_tt, fEnum_l, fEnum_d, bIsN_of, bNotN_of, isNon_i, isNon_b, isNon_s, isNon_l, isNon_t, isNon_n, Tn.any, Tn.sub, eq_self, Bool.or_self, Bool.and_self, Bool.or_false, ne_eq, not_true, not_false_eq_true, and_self, and_true, true_and, opsFree, List.all_cons, List.all_nil, bEq_bb, bEq_ss, bNe_bb, bNe_ss, Bool.and_true, Bool.not_true, Bool.not_false, Bool.false_eq_true, List.any_cons, List.any_nil, Nat.reduceBEq, Bool.or_false, Bool.or_true, Bool.false_or, Bool.true_and, Bool.false_and, wipeE, unwipeE, p_comp, c1, c2]
theorem det_b1 {t : T} {rows : List Row} {n : Nat} (ln : bLen t = some (.d (.int (n : Int)))) (hn : n ≤ 7) (r : Rs Fl) (h : forGo (gN 5) b_determinant_7 (intsFrom 0 n) [some t, some (.d (.lst (dM rows))), none, some (.d (.int 1)), some (.d (.int 1)), none, none, none, none, none] = r) : q_determinant_9 [some t, some (.d (.lst (dM rows))), none, some (.d (.int 1)), some (.d (.int 1)), none, none, none, none, none] = r := by
  have h1 : (aCons (mEO (mCB (f1 bLen) (aCons (mPk 0) aNil))) aNil) [some t, some (.d (.lst (dM rows))), none, some (.d (.int 1)), some (.d (.int 1)), none, none, none, none, none] = .ok [.tmp (.d (.int (n : Int)))] [some t, some (.d (.lst (dM rows))), none, some (.d (.int 1)), some (.d (.int 1)), none, none, none, none, none] := by simp only [p_stepC, p_stepF, p_seq, p_asg, p_drop, p_ret, p_pass, p_break, p_cont, p_ifs, p_if, p_de, p_ed, p_eo, p_do, p_use, p_move, p_pk, p_c, p_op2, p_op1, p_b, p_andT, p_orT, p_notT, p_tru, p_andV, p_orV, p_notV, p_aug, p_par, p_lst, p_tup, p_upd, p_isN, p_notN, p_isi, p_sl, p_inone, p_isome, p_cb, p_call, p_callk, p_anil, p_acons, p_dnil, p_dcons, p_enil, p_econs, p_yes, p_gn, p_gnil, p_gcons, p_gtup, p_gsub, p_cres, n_crT, n_cr2, takeOps, putOps, isOwnL, n_f1, atAll, Op.at, Rs.map_ok, n_bind, n_ap1, n_ap2, n_apL, Rs.bind_exc, Rs.bind_bad, n_of, Rs.of_none, Option.bind_some, Option.bind_none, Option.join_some, Option.map_some,
  List.getElem?_cons_zero, List.getElem?_cons_succ, List.getElem?_nil, List.set_cons_zero, List.set_cons_succ, List.length_cons, List.length_nil, T.toD, bl?_d, Nat.zero_lt_succ, Nat.succ_lt_succ_iff, if_true, if_false, reduceIte, reduceCtorEq, List.map_cons, List.map_nil, List.cons_append, List.nil_append, List.replicate_succ, List.replicate_zero, Nat.reduceAdd, Nat.reduceSub, Nat.reduceLT, Nat.reduceLeDiff, Nat.reduceEqDiff, bAdd_ii, bSub_ii, bMul_small, bMod_pos, bFdiv_pos, bPow_small, Int.reduceToNat, Int.reducePow, decide_eq_true_eq, decide_true, decide_false, bLt_ii, bGe_ii, bGt_ii, bLe_ii, bEq_ii, bNe_ii, bInt_i, bLen_l, bLen_d, bLen_ro, bLen_t, bList_l, bList_d, bList_ro, bList_t, bTuple_l, bTuple_d, bTuple_t, uAppend_one, uInsert_one, uPopAt_one, outs, aHas, aNo, aOne, aOr, bIx_l, bIx_d, bIx_t, bIx_ro, bTru, atI_lit, ixN_lit, bSl_l, bSl_d, bSl_ro, isi_l, isi_d, isi_t, isi_i, isi_b, isi_s, isi_n, Rs.env_ok, fSeq_l, fSeq_d, fSeq_ro, fSeq_t, fZip_ll, fZip_ld, fZip_dl, fZip_dd, fZip_tt, fEnum_l, fEnum_d, bIsN_of, bNotN_of, isNon_i, isNon_b, isNon_s, isNon_l, isNon_t, isNon_n, Tn.any, Tn.sub, eq_self, Bool.or_self, Bool.and_self, Bool.or_false, ne_eq, not_true, not_false_eq_true, and_self, and_true, true_and, opsFree, List.all_cons, List.all_nil, bEq_bb, bEq_ss, bNe_bb, bNe_ss, Bool.and_true, Bool.not_true, Bool.not_false, Bool.false_eq_true, List.any_cons, List.any_nil, Nat.reduceBEq, Bool.or_false, Bool.or_true, Bool.false_or, Bool.true_and, Bool.false_and, wipeE, unwipeE, ln]
  refine (for_at h1 rfl (fR1_nat (n := n) (by omega)) rfl h).trans ?_
  cases r <;> rfl
theorem det_a {t : T} {rows : List Row} : (mSeq (mAsg (mDE (mC (.int 1))) (gN 3)) (mSeq (mAsg (mDE (mC (.int 1))) (gN 4)) mNx)) [some t, some (.d (.lst (dM rows))), none, none, none, none, none, none, none, none] = .ok .nx [some t, some (.d (.lst (dM rows))), none, some (.d (.int 1)), some (.d (.int 1)), none, none, none, none, none] := by simp only [p_stepC, p_stepF, p_seq, p_asg, p_drop, p_ret, p_pass, p_break, p_cont, p_ifs, p_if, p_de, p_ed, p_eo, p_do, p_use, p_move, p_pk, p_c, p_op2, p_op1, p_b, p_andT, p_orT, p_notT, p_tru, p_andV, p_orV, p_notV, p_aug, p_par, p_lst, p_tup, p_upd, p_isN, p_notN, p_isi, p_sl, p_inone, p_isome, p_cb, p_call, p_callk, p_anil, p_acons, p_dnil, p_dcons, p_enil, p_econs, p_yes, p_gn, p_gnil, p_gcons, p_gtup, p_gsub, p_cres, n_crT, n_cr2, takeOps, putOps, isOwnL, n_f1, atAll, Op.at, Rs.map_ok, n_bind, n_ap1, n_ap2, n_apL, Rs.bind_exc, Rs.bind_bad, n_of, Rs.of_none, Option.bind_some, Option.bind_none, Option.join_some, Option.map_some,
  List.getElem?_cons_zero, List.getElem?_cons_succ, List.getElem?_nil, List.set_cons_zero, List.set_cons_succ, List.length_cons, List.length_nil, T.toD, bl?_d, Nat.zero_lt_succ, Nat.succ_lt_succ_iff, if_true, if_false, reduceIte, reduceCtorEq, List.map_cons, List.map_nil, List.cons_append, List.nil_append, List.replicate_succ, List.replicate_zero, Nat.reduceAdd, Nat.reduceSub, Nat.reduceLT, Nat.reduceLeDiff, Nat.reduceEqDiff, bAdd_ii, bSub_ii, bMul_small, bMod_pos, bFdiv_pos, bPow_small, Int.reduceToNat, Int.reducePow, decide_eq_true_eq, decide_true, decide_false, bLt_ii, bGe_ii, bGt_ii, bLe_ii, bEq_ii, bNe_ii, bInt_i, bLen_l, bLen_d, bLen_ro, bLen_t, bList_l, bList_d, bList_ro, bList_t, bTuple_l, bTuple_d, bTuple_t, uAppend_one, uInsert_one, uPopAt_one, outs, aHas, aNo, aOne, aOr, bIx_l, bIx_d, bIx_t, bIx_ro, bTru, atI_lit, ixN_lit, bSl_l, bSl_d, bSl_ro, isi_l, isi_d, isi_t, isi_i, isi_b, isi_s, isi_n, Rs.env_ok, fSeq_l, fSeq_d, fSeq_ro, fSeq_t, fZip_ll, fZip_ld, fZip_dl, fZip_dd, fZip_tt, fEnum_l, fEnum_d, bIsN_of, bNotN_of, isNon_i, isNon_b, isNon_s, isNon_l, isNon_t, isNon_n, Tn.any, Tn.sub, eq_self, Bool.or_self, Bool.and_self, Bool.or_false, ne_eq, not_true, not_false_eq_true, and_self, and_true, true_and, opsFree, List.all_cons, List.all_nil, bEq_bb, bEq_ss, bNe_bb, bNe_ss, Bool.and_true, Bool.not_true, Bool.not_false, Bool.false_eq_true, List.any_cons, List.any_nil, Nat.reduceBEq, Bool.or_false, Bool.or_true, Bool.false_or, Bool.true_and, Bool.false_and, wipeE, unwipeE]
theorem det_end {t : T} {ds : List D} {b' s' : Int} {p5 p6 p8 p9 : Option T} (h3 : CMulW s' b') : q_determinant_10 [some t, some (.d (.lst ds)), none, some (.d (.int b')), some (.d (.int s')), p5, p6, none, p8, p9] = .ok (.rt (.d (.int (s' * b')))) [some t, some (.d (.lst ds)), none, some (.d (.int b')), some (.d (.int s')), p5, p6, none, p8, p9] := by
  unfold q_determinant_10
  simp only [p_stepC, p_stepF, p_seq, p_asg, p_drop, p_ret, p_pass, p_break, p_cont, p_ifs, p_if, p_de, p_ed, p_eo, p_do, p_use, p_move, p_pk, p_c, p_op2, p_op1, p_b, p_andT, p_orT, p_notT, p_tru, p_andV, p_orV, p_notV, p_aug, p_par, p_lst, p_tup, p_upd, p_isN, p_notN, p_isi, p_sl, p_inone, p_isome, p_cb, p_call, p_callk, p_anil, p_acons, p_dnil, p_dcons, p_enil, p_econs, p_yes, p_gn, p_gnil, p_gcons, p_gtup, p_gsub, p_cres, n_crT, n_cr2, takeOps, putOps, isOwnL, n_f1, atAll, Op.at, Rs.map_ok, n_bind, n_ap1, n_ap2, n_apL, Rs.bind_exc, Rs.bind_bad, n_of, Rs.of_none, Option.bind_some, Option.bind_none, Option.join_some, Option.map_some,
  List.getElem?_cons_zero, List.getElem?_cons_succ, List.getElem?_nil, List.set_cons_zero, List.set_cons_succ, List.length_cons, List.length_nil, T.toD, bl?_d, Nat.zero_lt_succ, Nat.succ_lt_succ_iff, if_true, if_false, reduceIte, reduceCtorEq, List.map_cons, List.map_nil, List.cons_append, List.nil_append, List.replicate_succ, List.replicate_zero, Nat.reduceAdd, Nat.reduceSub, Nat.reduceLT, Nat.reduceLeDiff, Nat.reduceEqDiff, bAdd_ii, bSub_ii, bMul_small, bMod_pos, bFdiv_pos, bPow_small, Int.reduceToNat, Int.reducePow, decide_eq_true_eq, decide_true, decide_false, bLt_ii, bGe_ii, bGt_ii, bLe_ii, bEq_ii, bNe_ii, bInt_i, bLen_l, bLen_d, bLen_ro, bLen_t, bList_l, bList_d, bList_ro, bList_t, bTuple_l, bTuple_d, bTuple_t, uAppend_one, uInsert_one, uPopAt_one, outs, aHas, aNo, aOne, aOr, bIx_l, bIx_d, bIx_t, bIx_ro, bTru, atI_lit, ixN_lit, bSl_l, bSl_d, bSl_ro, isi_l, isi_d, isi_t, isi_i, isi_b, isi_s, isi_n, Rs.env_ok, fSeq_l, fSeq_d, fSeq_ro, fSeq_t, fZip_ll, fZip_ld, fZip_dl, fZip_dd, fZip_tt, fEnum_l, fEnum_d, bIsN_of, bNotN_of, isNon_i, isNon_b, isNon_s, isNon_l, isNon_t, isNon_n, Tn.any, Tn.sub, eq_self, Bool.or_self, Bool.and_self, Bool.or_false, ne_eq, not_true, not_false_eq_true, and_self, and_true, true_and, opsFree, List.all_cons, List.all_nil, bEq_bb, bEq_ss, bNe_bb, bNe_ss, Bool.and_true, Bool.not_true, Bool.not_false, Bool.false_eq_true, List.any_cons, List.any_nil, Nat.reduceBEq, Bool.or_false, Bool.or_true, Bool.false_or, Bool.true_and, Bool.false_and, wipeE, unwipeE, bMul_f h3]
theorem det_run {t : T} {rows : List Row} {n e : Nat} (ht : RowsT t rows) (hl : rows.length = n) (hr : ∀ r ∈ rows, r.length = n) (hn : n ≤ 7) (he : e ≤ 1000) (hb : ∀ r ∈ rows, ∀ j, (at0 r j).natAbs ≤ 2 ^ e) : ∃ e', mb_determinant [some t, none, none, none, none, none, none, none, none, none] = .ok (.rt (.d (.int (det n (mx rows))))) (some t :: e') := by
  have S := Sb.init hr hb
  have Dd := Dt.init rows
  rw [hl] at Dd
  have ln := bLen_rows ht
  rw [hl] at ln
  unfold mb_determinant
  rw [seq_nx (det_copy ht (by omega)), seq_nx2 det_a]
  rcases det_loop (e := e) (M := mx rows) he hn t n 0 rows 1 1 none none none none (by omega) S Dd with ⟨e', h1, h2⟩ | ⟨rest', b', s', p5, p6, p8, p9, h1, h2, h3⟩
  · refine ⟨e', ?_⟩
    rw [h2]
    exact seq_rt (det_b1 ln hn _ h1)
  · refine ⟨[some (.d (.lst (dM rest'))), none, some (.d (.int b')), some (.d (.int s')), p5, p6, none, p8, p9], ?_⟩
    rw [← h2, seq_nx (det_b1 ln hn _ h1)]
    exact det_end h3
theorem det_ok {t : T} {rows : List Row} {n e : Nat} (ht : RowsT t rows) (hl : rows.length = n) (hr : ∀ r ∈ rows, r.length = n) (hn : n ≤ 7) (he : e ≤ 1000) (hb : ∀ r ∈ rows, ∀ j, (at0 r j).natAbs ≤ 2 ^ e) : m_determinant [t] = .ok (.d (.int (det n (mx rows)))) [some t] := by
  obtain ⟨e', k1⟩ := det_run ht hl hr hn he hb
  unfold m_determinant
  refine Eq.trans (fn_ret (by rfl) k1) ?_
  cases ht <;> rfl
end NS
namespace NS
open PySem L2 LA
/-- what is known while the columns are walked -/
structure Rn (n e c k m0 : Nat) (M : Mx) (b : Int) (rest : List Row) : Prop where
  S : Sb n e k b rest
  kc : k ≤ c
  zr : ∀ j, j < c → ∀ r ∈ rest, at0 r j = 0
  rk : ∀ q, Rk rest.length n (mx rest) q → Rk m0 n M (k + q)
theorem Rn.init {n e : Nat} {rows : List Row} (S : Sb n e 0 1 rows) : Rn n e 0 0 rows.length (mx rows) 1 rows := ⟨S, Nat.le_refl 0, fun j h => absurd h (by omega), fun q h => by rw [Nat.zero_add]; exact h⟩
theorem Rn.skip {n e c k m0 : Nat} {M : Mx} {b : Int} {rest : List Row} (R : Rn n e c k m0 M b rest) (h : ∀ r ∈ rest, at0 r c = 0) : Rn n e (c + 1) k m0 M b rest := ⟨R.S, by have := R.kc; omega, fun j hj r hr => by
  by_cases hc : j = c
  · rw [hc]; exact h r hr
  · exact R.zr j (by omega) r hr, R.rk⟩
theorem Rn.step {n e c k m0 : Nat} {M : Mx} {b : Int} {rest : List Row} (R : Rn n e c k m0 M b rest) (hc : c < n) {p : Nat} (hp : p < rest.length) (h0 : at0 rest[p] c ≠ 0) : Rn n e (c + 1) (k + 1) m0 M (at0 rest[p] c) ((rest.eraseIdx p).map fun r => clr r rest[p] c b) := by
  refine ⟨R.S.step hp h0, by have := R.kc; omega, fun j hj r hr => ?_, fun q h => ?_⟩
  · obtain ⟨r0, h1, rfl⟩ := List.mem_map.mp hr
    have hr0 := List.mem_of_mem_eraseIdx h1
    have rl := R.S.rel hr0 (List.getElem_mem hp) c j
    by_cases hjc : j = c
    · subst hjc
      have : b * at0 (clr r0 rest[p] j b) j = 0 := by rw [rl]; grind
      exact (Int.mul_eq_zero.mp this).resolve_left R.S.b0
    · have z1 := R.zr j (by omega) r0 hr0
      have z2 := R.zr j (by omega) _ (List.getElem_mem hp)
      have : b * at0 (clr r0 rest[p] c b) j = 0 := by rw [rl, z1, z2]; omega
      exact (Int.mul_eq_zero.mp this).resolve_left R.S.b0
  · have hl : ((rest.eraseIdx p).map fun r => clr r rest[p] c b).length = rest.length - 1 := by rw [List.length_map, erase_len hp]
    rw [hl] at h
    have := R.rk (q + 1) ((R.S.clr hc hp h0).rk h)
    rw [show k + 1 + q = k + (q + 1) by omega]
    exact this
theorem Rn.done {n e k m0 : Nat} {M : Mx} {b : Int} {rest : List Row} (R : Rn n e n k m0 M b rest) : Rk m0 n M k := R.rk 0 (Rk.zero fun i j hi hj => by
  rw [mx_lt hi]
  exact R.zr j hj _ (List.getElem_mem hi))
theorem ind_body {rest : List Row} {n e c k m0 : Nat} {b : Int} {M : Mx} (R : Rn n e c k m0 M b rest) (he : e ≤ 1000) (hc : c < n) (hn : n ≤ 7) (hlen : rest.length ≤ 20) (t : T) (o5 o6 o8 o9 : Option T) :
    ∃ rest' b' k' p5 p6 p8 p9, stepF (gN 5) b_independent_rows_2 (.int (c : Int)) [some t, some (.d (.lst (dM rest))), none, some (.d (.int b)), some (.d (.int (k : Int))), o5, o6, none, o8, o9] = .ok .nx [some t, some (.d (.lst (dM rest'))), none, some (.d (.int b')), some (.d (.int (k' : Nat))), p5, p6, none, p8, p9] ∧ Rn n e (c + 1) k' m0 M b' rest' ∧ rest'.length ≤ 20 := by
  have pg := fun a b o3 o4 o6 o8 o9 => places_go (rest := rest) (n := n) (k := c) R.S.len hc (by omega) a b o3 o4 o6 o8 o9
  have hk := R.kc
  unfold b_independent_rows_2 q_independent_rows_0 q_independent_rows_1
  cases hp : placesOf rest c with
  | nil =>
    rw [hp] at pg
    refine ⟨rest, b, k, some (.d (.int (c : Int))), some (.d (.lst [])), o8, o9, ?_, R.skip (places_nil hp), hlen⟩
    simp only [p_stepC, p_stepF, p_seq, p_asg, p_drop, p_ret, p_pass, p_break, p_cont, p_ifs, p_if, p_de, p_ed, p_eo, p_do, p_use, p_move, p_pk, p_c, p_op2, p_op1, p_b, p_andT, p_orT, p_notT, p_tru, p_andV, p_orV, p_notV, p_aug, p_par, p_lst, p_tup, p_upd, p_isN, p_notN, p_isi, p_sl, p_inone, p_isome, p_cb, p_call, p_callk, p_anil, p_acons, p_dnil, p_dcons, p_enil, p_econs, p_yes, p_gn, p_gnil, p_gcons, p_gtup, p_gsub, p_cres, n_crT, n_cr2, takeOps, putOps, isOwnL, n_f1, atAll, Op.at, Rs.map_ok, n_bind, n_ap1, n_ap2, n_apL, Rs.bind_exc, Rs.bind_bad, n_of, Rs.of_none, Option.bind_some, Option.bind_none, Option.join_some, Option.map_some,
  List.getElem?_cons_zero, List.getElem?_cons_succ, List.getElem?_nil, List.set_cons_zero, List.set_cons_succ, List.length_cons, List.length_nil, T.toD, bl?_d, Nat.zero_lt_succ, Nat.succ_lt_succ_iff, if_true, if_false, reduceIte, reduceCtorEq, List.map_cons, List.map_nil, List.cons_append, List.nil_append, List.replicate_succ, List.replicate_zero, Nat.reduceAdd, Nat.reduceSub, Nat.reduceLT, Nat.reduceLeDiff, Nat.reduceEqDiff, bAdd_ii, bSub_ii, bMul_small, bMod_pos, bFdiv_pos, bPow_small, Int.reduceToNat, Int.reducePow, decide_eq_true_eq, decide_true, decide_false, bLt_ii, bGe_ii, bGt_ii, bLe_ii, bEq_ii, bNe_ii, bInt_i, bLen_l, bLen_d, bLen_ro, bLen_t, bList_l, bList_d, bList_ro, bList_t, bTuple_l, bTuple_d, bTuple_t, uAppend_one, uInsert_one, uPopAt_one, outs, aHas, aNo, aOne, aOr, bIx_l, bIx_d, bIx_t, bIx_ro, bTru, atI_lit, ixN_lit, bSl_l, bSl_d, bSl_ro, isi_l, isi_d, isi_t, isi_i, isi_b, isi_s, isi_n, Rs.env_ok, fSeq_l, fSeq_d, fSeq_ro, fSeq_t, fZip_ll, fZip_ld, fZip_dl, fZip_dd, fZip_tt, fEnum_l, fEnum_d, bIsN_of, bNotN_of, isNon_i, isNon_b, isNon_s, isNon_l, isNon_t, isNon_n, Tn.any, Tn.sub, eq_self, Bool.or_self, Bool.and_self, Bool.or_false, ne_eq, not_true, not_false_eq_true, and_self, and_true, true_and, opsFree, List.all_cons, List.all_nil, bEq_bb, bEq_ss, bNe_bb, bNe_ss, Bool.and_true, Bool.not_true, Bool.not_false, Bool.false_eq_true, List.any_cons, List.any_nil, Nat.reduceBEq, Bool.or_false, Bool.or_true, Bool.false_or, Bool.true_and, Bool.false_and, wipeE, unwipeE, p_comp, enum_eq, pg, List.isEmpty_nil]
  | cons d tl =>
    obtain ⟨p, hpl, rfl, h0⟩ := places_cons hp
    rw [hp] at pg
    have a1 := dM_atI hpl
    have a2 : atI ((rest[p]).map D.int) (c : Int) = some (.int (at0 rest[p] c)) := at0_of (by rw [R.S.len _ (List.getElem_mem hpl)]; exact hc)
    have cg := fun a a1 o4 o6 o7 o9 => clear_go (c := c) R.S he (by omega) hc (by omega) hpl (by omega) a a1 o4 o6 o7 o9
    have ls : (cutD (dM rest) none (some (p : Int))).length + (cutD (dM rest) (some ((p : Int) + 1)) none).length ≤ sizeLine := by
      rw [← List.length_append, others_eq, dM_len, erase_len hpl, sizeLine_val]; omega
    refine ⟨_, _, k + 1, some (.d (.int (c : Int))), some (.d (.lst (.int (p : Int) :: tl))), some (.d (dR rest[p])), some (.d (.lst (dM (rest.eraseIdx p)))), ?_, R.step hc hpl h0, by rw [List.length_map, erase_len hpl]; omega⟩
    unfold dR at *
    simp (disch := omega) only [p_stepC, p_stepF, p_seq, p_asg, p_drop, p_ret, p_pass, p_break, p_cont, p_ifs, p_if, p_de, p_ed, p_eo, p_do, p_use, p_move, p_pk, p_c, p_op2, p_op1, p_b, p_andT, p_orT, p_notT, p_tru, p_andV, p_orV, p_notV, p_aug, p_par, p_lst, p_tup, p_upd, p_isN, p_notN, p_isi, p_sl, p_inone, p_isome, p_cb, p_call, p_callk, p_anil, p_acons, p_dnil, p_dcons, p_enil, p_econs, p_yes, p_gn, p_gnil, p_gcons, p_gtup, p_gsub, p_cres, n_crT, n_cr2, takeOps, putOps, isOwnL, n_f1, atAll, Op.at, Rs.map_ok, n_bind, n_ap1, n_ap2, n_apL, Rs.bind_exc, Rs.bind_bad, n_of, Rs.of_none, Option.bind_some, Option.bind_none, Option.join_some, Option.map_some,
  List.getElem?_cons_zero, List.getElem?_cons_succ, List.getElem?_nil, List.set_cons_zero, List.set_cons_succ, List.length_cons, List.length_nil, T.toD, bl?_d, Nat.zero_lt_succ, Nat.succ_lt_succ_iff, if_true, if_false, reduceIte, reduceCtorEq, List.map_cons, List.map_nil, List.cons_append, List.nil_append, List.replicate_succ, List.replicate_zero, Nat.reduceAdd, Nat.reduceSub, Nat.reduceLT, Nat.reduceLeDiff, Nat.reduceEqDiff, bAdd_ii, bSub_ii, bMul_small, bMod_pos, bFdiv_pos, bPow_small, Int.reduceToNat, Int.reducePow, decide_eq_true_eq, decide_true, decide_false, bLt_ii, bGe_ii, bGt_ii, bLe_ii, bEq_ii, bNe_ii, bInt_i, bLen_l, bLen_d, bLen_ro, bLen_t, bList_l, bList_d, bList_ro, bList_t, bTuple_l, bTuple_d, bTuple_t, uAppend_one, uInsert_one, uPopAt_one, outs, aHas, aNo, aOne, aOr, bIx_l, bIx_d, bIx_t, bIx_ro, bTru, atI_lit, ixN_lit, bSl_l, bSl_d, bSl_ro, isi_l, isi_d, isi_t, isi_i, isi_b, isi_s, isi_n, Rs.env_ok, fSeq_l, fSeq_d, fSeq_ro, fSeq_t, fZip_ll, fZip_ld, fZip_dl, fZip_dd, fZip_tt, fEnum_l, fEnum_d, bIsN_of, bNotN_of, isNon_i, isNon_b, isNon_s, isNon_l, isNon_t, isNon_n, Tn.any, Tn.sub, eq_self, Bool.or_self, Bool.and_self, Bool.or_false, ne_eq, not_true, not_false_eq_true, and_self, and_true, true_and, opsFree, List.all_cons, List.all_nil, bEq_bb, bEq_ss, bNe_bb, bNe_ss, Bool.and_true, Bool.not_true, Bool.not_false, Bool.false_eq_true, List.any_cons, List.any_nil, Nat.reduceBEq, Bool.or_false, Bool.or_true, Bool.false_or, Bool.true_and, Bool.false_and, wipeE, unwipeE, p_comp, enum_eq, pg, List.isEmpty_cons, a1, bAdd_ll, ls, others_eq, cg, a2, Int.natCast_add, Int.cast_ofNat_Int]
theorem ind_loop {n e m0 : Nat} {M : Mx} (he : e ≤ 1000) (hn : n ≤ 7) (t : T) : ∀ (m c : Nat) (rest : List Row) (b : Int) (k : Nat) (o5 o6 o8 o9 : Option T), c + m = n → Rn n e c k m0 M b rest → rest.length ≤ 20 →
    ∃ k' p1 p3 p5 p6 p8 p9, forGo (gN 5) b_independent_rows_2 (intsFrom c m) [some t, some (.d (.lst (dM rest))), none, some (.d (.int b)), some (.d (.int (k : Int))), o5, o6, none, o8, o9] = .ok .nx [some t, p1, none, p3, some (.d (.int (k' : Nat))), p5, p6, none, p8, p9] ∧ Rk m0 n M k'
  | 0, c, rest, b, k, o5, o6, o8, o9, hc, R, hl => by
    have : c = n := by omega
    subst this
    exact ⟨k, _, _, _, _, _, _, rfl, R.done⟩
  | m + 1, c, rest, b, k, o5, o6, o8, o9, hc, R, hl => by
    rw [intsFrom_succ]
    obtain ⟨rest', b', k', p5, p6, p8, p9, h1, R', hl'⟩ := ind_body R he (by omega) hn hl t o5 o6 o8 o9
    rw [for_step h1]
    exact ind_loop he hn t m (c + 1) rest' b' k' p5 p6 p8 p9 (by omega) R' hl'
theorem ind_copy {t : T} {rows : List Row} (ht : RowsT t rows) (hs : rows.length ≤ 1000) : q_independent_rows_3 [some t, none, none, none, none, none, none, none, none, none] = .ok .nx [some t, some (.d (.lst (dM rows))), none, none, none, none, none, none, none, none] := by
  have cg := fun w hw => copy_go (rows := rows) w hw hs
  have c1 := cg dR (.inl rfl)
  have c2 := cg dT (.inr rfl)
  unfold q_independent_rows_3
  unfold dM at *
  cases ht <;> (try unfold dM) <;> simp only [p_stepC, p_stepF, p_seq, p_asg, p_drop, p_ret, p_pass, p_break, p_cont, p_ifs, p_if, p_de, p_ed, p_eo, p_do, p_use, p_move, p_pk, p_c, p_op2, p_op1, p_b, p_andT, p_orT, p_notT, p_tru, p_andV, p_orV, p_notV, p_aug, p_par, p_lst, p_tup, p_upd, p_isN, p_notN, p_isi, p_sl, p_inone, p_isome, p_cb, p_call, p_callk, p_anil, p_acons, p_dnil, p_dcons, p_enil, p_econs, p_yes, p_gn, p_gnil, p_gcons, p_gtup, p_gsub, p_cres, n_crT, n_cr2, takeOps, putOps, isOwnL, n_f1, atAll, Op.at, Rs.map_ok, n_bind, n_ap1, n_ap2, n_apL, Rs.bind_exc, Rs.bind_bad, n_of, Rs.of_none, Option.bind_some, Option.bind_none, Option.join_some, Option.map_some,
  List.getElem?_cons_zero, List.getElem?_cons_succ, List.getElem?_nil, List.set_cons_zero, List.set_cons_succ, List.length_cons, List.length_nil, T.toD, bl?_d, Nat.zero_lt_succ, Nat.succ_lt_succ_iff, if_true, if_false, reduceIte, reduceCtorEq, List.map_cons, List.map_nil, List.cons_append, List.nil_append, List.replicate_succ, List.replicate_zero, Nat.reduceAdd, Nat.reduceSub, Nat.reduceLT, Nat.reduceLeDiff, Nat.reduceEqDiff, bAdd_ii, bSub_ii, bMul_small, bMod_pos, bFdiv_pos, bPow_small, Int.reduceToNat, Int.reducePow, decide_eq_true_eq, decide_true, decide_false, bLt_ii, bGe_ii, bGt_ii, bLe_ii, bEq_ii, bNe_ii, bInt_i, bLen_l, bLen_d, bLen_ro, bLen_t, bList_l, bList_d, bList_ro, bList_t, bTuple_l, bTuple_d, bTuple_t, uAppend_one, uInsert_one, uPopAt_one, outs, aHas, aNo, aOne, aOr, bIx_l, bIx_d, bIx_t, bIx_ro, bTru, atI_lit, ixN_lit, bSl_l, bSl_d, bSl_ro, isi_l, isi_d, isi_t, isi_i, isi_b, isi_s, isi_n, Rs.env_ok, fSeq_l, fSeq_d, fSeq_ro, fSeq_t, fZip_ll, fZip_ld, fZip_dl, fZip_dd, fZip_tt, fEnum_l, fEnum_d, bIsN_of, bNotN_of, isNon_i, isNon_b, isNon_s, isNon_l, isNon_t, isNon_n, Tn.any, Tn.sub, eq_self, Bool.or_self, Bool.and_self, Bool.or_false, ne_eq, not_true, not_false_eq_true, and_self, and_true, true_and, opsFree, List.all_cons, List.all_nil, bEq_bb, bEq_ss, bNe_bb, bNe_ss, Bool.and_true, Bool.not_true, Bool.not_false, Bool.false_eq_true, List.any_cons, List.any_nil, Nat.reduceBEq, Bool.or_false, Bool.or_true, Bool.false_or, Bool.true_and, Bool.false_and, wipeE, unwipeE, p_comp, c1, c2]
theorem ind_a {t : T} {ds : List D} : (mSeq (mAsg (mDE (mC (.int 1))) (gN 3)) (mSeq (mAsg (mDE (mC (.int 0))) (gN 4)) mNx)) [some t, some (.d (.lst ds)), none, none, none, none, none, none, none, none] = .ok .nx [some t, some (.d (.lst ds)), none, some (.d (.int 1)), some (.d (.int 0)), none, none, none, none, none] := by simp only [p_stepC, p_stepF, p_seq, p_asg, p_drop, p_ret, p_pass, p_break, p_cont, p_ifs, p_if, p_de, p_ed, p_eo, p_do, p_use, p_move, p_pk, p_c, p_op2, p_op1, p_b, p_andT, p_orT, p_notT, p_tru, p_andV, p_orV, p_notV, p_aug, p_par, p_lst, p_tup, p_upd, p_isN, p_notN, p_isi, p_sl, p_inone, p_isome, p_cb, p_call, p_callk, p_anil, p_acons, p_dnil, p_dcons, p_enil, p_econs, p_yes, p_gn, p_gnil, p_gcons, p_gtup, p_gsub, p_cres, n_crT, n_cr2, takeOps, putOps, isOwnL, n_f1, atAll, Op.at, Rs.map_ok, n_bind, n_ap1, n_ap2, n_apL, Rs.bind_exc, Rs.bind_bad, n_of, Rs.of_none, Option.bind_some, Option.bind_none, Option.join_some, Option.map_some,
  List.getElem?_cons_zero, List.getElem?_cons_succ, List.getElem?_nil, List.set_cons_zero, List.set_cons_succ, List.length_cons, List.length_nil, T.toD, bl?_d, Nat.zero_lt_succ, Nat.succ_lt_succ_iff, if_true, if_false, reduceIte, reduceCtorEq, List.map_cons, List.map_nil, List.cons_append, List.nil_append, List.replicate_succ, List.replicate_zero, Nat.reduceAdd, Nat.reduceSub, Nat.reduceLT, Nat.reduceLeDiff, Nat.reduceEqDiff, bAdd_ii, bSub_ii, bMul_small, bMod_pos, bFdiv_pos, bPow_small, Int.reduceToNat, Int.reducePow, decide_eq_true_eq, decide_true, decide_false, bLt_ii, bGe_ii, bGt_ii, bLe_ii, bEq_ii, bNe_ii, bInt_i, bLen_l, bLen_d, bLen_ro, bLen_t, bList_l, bList_d, bList_ro, bList_t, bTuple_l, bTuple_d, bTuple_t, uAppend_one, uInsert_one, uPopAt_one, outs, aHas, aNo, aOne, aOr, bIx_l, bIx_d, bIx_t, bIx_ro, bTru, atI_lit, ixN_lit, bSl_l, bSl_d, bSl_ro, isi_l, isi_d, isi_t, isi_i, isi_b, isi_s, isi_n, Rs.env_ok, fSeq_l, fSeq_d, fSeq_ro, fSeq_t, fZip_ll, fZip_ld, fZip_dl, fZip_dd, fZip_tt, fEnum_l, fEnum_d, bIsN_of, bNotN_of, isNon_i, isNon_b, isNon_s, isNon_l, isNon_t, isNon_n, Tn.any, Tn.sub, eq_self, Bool.or_self, Bool.and_self, Bool.or_false, ne_eq, not_true, not_false_eq_true, and_self, and_true, true_and, opsFree, List.all_cons, List.all_nil, bEq_bb, bEq_ss, bNe_bb, bNe_ss, Bool.and_true, Bool.not_true, Bool.not_false, Bool.false_eq_true, List.any_cons, List.any_nil, Nat.reduceBEq, Bool.or_false, Bool.or_true, Bool.false_or, Bool.true_and, Bool.false_and, wipeE, unwipeE]
theorem ind_run {t : T} {rows : List Row} {n e : Nat} (ht : RowsT t rows) (hr : ∀ r ∈ rows, r.length = n) (hn : n ≤ 7) (hlen : rows.length ≤ 20) (he : e ≤ 1000) (hb : ∀ r ∈ rows, ∀ j, (at0 r j).natAbs ≤ 2 ^ e) : ∃ e', ∃ k : Nat, mb_independent_rows [some t, none, none, none, none, none, none, none, none, none] = .ok (.rt (.d (.int k))) (some t :: e') ∧ Rk rows.length n (mx rows) k := by
  have S := Sb.init hr hb
  unfold mb_independent_rows
  rw [seq_nx (ind_copy ht (by omega)), seq_nx2 ind_a]
  have h1 : ∃ nn : Nat, (nn = n ∨ (rows = [] ∧ nn = 0)) ∧ (aCons (mDO (mIf (mTru (mPk 1)) (mED (mCB (f1 bLen) (aCons (mEO (mOp2 bIx (mPk 1) (mDO (mC (.int 0))))) aNil))) (mC (.int 0)))) aNil) [some t, some (.d (.lst (dM rows))), none, some (.d (.int 1)), some (.d (.int 0)), none, none, none, none, none] = .ok [.tmp (.d (.int (nn : Int)))] [some t, some (.d (.lst (dM rows))), none, some (.d (.int 1)), some (.d (.int 0)), none, none, none, none, none] := by
    cases rows with
    | nil =>
      refine ⟨0, .inr ⟨rfl, rfl⟩, ?_⟩
      unfold dM
      simp only [p_stepC, p_stepF, p_seq, p_asg, p_drop, p_ret, p_pass, p_break, p_cont, p_ifs, p_if, p_de, p_ed, p_eo, p_do, p_use, p_move, p_pk, p_c, p_op2, p_op1, p_b, p_andT, p_orT, p_notT, p_tru, p_andV, p_orV, p_notV, p_aug, p_par, p_lst, p_tup, p_upd, p_isN, p_notN, p_isi, p_sl, p_inone, p_isome, p_cb, p_call, p_callk, p_anil, p_acons, p_dnil, p_dcons, p_enil, p_econs, p_yes, p_gn, p_gnil, p_gcons, p_gtup, p_gsub, p_cres, n_crT, n_cr2, takeOps, putOps, isOwnL, n_f1, atAll, Op.at, Rs.map_ok, n_bind, n_ap1, n_ap2, n_apL, Rs.bind_exc, Rs.bind_bad, n_of, Rs.of_none, Option.bind_some, Option.bind_none, Option.join_some, Option.map_some,
  List.getElem?_cons_zero, List.getElem?_cons_succ, List.getElem?_nil, List.set_cons_zero, List.set_cons_succ, List.length_cons, List.length_nil, T.toD, bl?_d, Nat.zero_lt_succ, Nat.succ_lt_succ_iff, if_true, if_false, reduceIte, reduceCtorEq, List.map_cons, List.map_nil, List.cons_append, List.nil_append, List.replicate_succ, List.replicate_zero, Nat.reduceAdd, Nat.reduceSub, Nat.reduceLT, Nat.reduceLeDiff, Nat.reduceEqDiff, bAdd_ii, bSub_ii, bMul_small, bMod_pos, bFdiv_pos, bPow_small, Int.reduceToNat, Int.reducePow, decide_eq_true_eq, decide_true, decide_false, bLt_ii, bGe_ii, bGt_ii, bLe_ii, bEq_ii, bNe_ii, bInt_i, bLen_l, bLen_d, bLen_ro, bLen_t, bList_l, bList_d, bList_ro, bList_t, bTuple_l, bTuple_d, bTuple_t, uAppend_one, uInsert_one, uPopAt_one, outs, aHas, aNo, aOne, aOr, bIx_l, bIx_d, bIx_t, bIx_ro, bTru, atI_lit, ixN_lit, bSl_l, bSl_d, bSl_ro, isi_l, isi_d, isi_t, isi_i, isi_b, isi_s, isi_n, Rs.env_ok, fSeq_l, fSeq_d, fSeq_ro, fSeq_t, fZip_ll, fZip_ld, fZip_dl, fZip_dd, fZip_tt, fEnum_l, fEnum_d, bIsN_of, bNotN_of, isNon_i, isNon_b, isNon_s, isNon_l, isNon_t, isNon_n, Tn.any, Tn.sub, eq_self, Bool.or_self, Bool.and_self, Bool.or_false, ne_eq, not_true, not_false_eq_true, and_self, and_true, true_and, opsFree, List.all_cons, List.all_nil, bEq_bb, bEq_ss, bNe_bb, bNe_ss, Bool.and_true, Bool.not_true, Bool.not_false, Bool.false_eq_true, List.any_cons, List.any_nil, Nat.reduceBEq, Bool.or_false, Bool.or_true, Bool.false_or, Bool.true_and, Bool.false_and, wipeE, unwipeE, List.isEmpty_nil, Int.cast_ofNat_Int]
    | cons r0 rs =>
      refine ⟨n, .inl rfl, ?_⟩
      have a1 := dM_at (rows := r0 :: rs) (i := 0) (by simp)
      have a2 : (dM (r0 :: rs)).isEmpty = false := rfl
      have a3 : (r0.map D.int).length = n := by rw [List.length_map]; exact hr r0 List.mem_cons_self
      rw [List.getElem_cons_zero] at a1
      unfold dR at a1
      simp only [p_stepC, p_stepF, p_seq, p_asg, p_drop, p_ret, p_pass, p_break, p_cont, p_ifs, p_if, p_de, p_ed, p_eo, p_do, p_use, p_move, p_pk, p_c, p_op2, p_op1, p_b, p_andT, p_orT, p_notT, p_tru, p_andV, p_orV, p_notV, p_aug, p_par, p_lst, p_tup, p_upd, p_isN, p_notN, p_isi, p_sl, p_inone, p_isome, p_cb, p_call, p_callk, p_anil, p_acons, p_dnil, p_dcons, p_enil, p_econs, p_yes, p_gn, p_gnil, p_gcons, p_gtup, p_gsub, p_cres, n_crT, n_cr2, takeOps, putOps, isOwnL, n_f1, atAll, Op.at, Rs.map_ok, n_bind, n_ap1, n_ap2, n_apL, Rs.bind_exc, Rs.bind_bad, n_of, Rs.of_none, Option.bind_some, Option.bind_none, Option.join_some, Option.map_some,
  List.getElem?_cons_zero, List.getElem?_cons_succ, List.getElem?_nil, List.set_cons_zero, List.set_cons_succ, List.length_cons, List.length_nil, T.toD, bl?_d, Nat.zero_lt_succ, Nat.succ_lt_succ_iff, if_true, if_false, reduceIte, reduceCtorEq, List.map_cons, List.map_nil, List.cons_append, List.nil_append, List.replicate_succ, List.replicate_zero, Nat.reduceAdd, Nat.reduceSub, Nat.reduceLT, Nat.reduceLeDiff, Nat.reduceEqDiff, bAdd_ii, bSub_ii, bMul_small, bMod_pos, bFdiv_pos, bPow_small, Int.reduceToNat, Int.reducePow, decide_eq_true_eq, decide_true, decide_false, bLt_ii, bGe_ii, bGt_ii, bLe_ii, bEq_ii, bNe_ii, bInt_i, bLen_l, bLen_d, bLen_ro, bLen_t, bList_l, bList_d, bList_ro, bList_t, bTuple_l, bTuple_d, bTuple_t, uAppend_one, uInsert_one, uPopAt_one, outs, aHas, aNo, aOne, aOr, bIx_l, bIx_d, bIx_t, bIx_ro, bTru, atI_lit, ixN_lit, bSl_l, bSl_d, bSl_ro, isi_l, isi_d, isi_t, isi_i, isi_b, isi_s, isi_n, Rs.env_ok, fSeq_l, fSeq_d, fSeq_ro, fSeq_t, fZip_ll, fZip_ld, fZip_dl, fZip_dd, fZip_tt, fEnum_l, fEnum_d, bIsN_of, bNotN_of, isNon_i, isNon_b, isNon_s, isNon_l, isNon_t, isNon_n, Tn.any, Tn.sub, eq_self, Bool.or_self, Bool.and_self, Bool.or_false, ne_eq, not_true, not_false_eq_true, and_self, and_true, true_and, opsFree, List.all_cons, List.all_nil, bEq_bb, bEq_ss, bNe_bb, bNe_ss, Bool.and_true, Bool.not_true, Bool.not_false, Bool.false_eq_true, List.any_cons, List.any_nil, Nat.reduceBEq, Bool.or_false, Bool.or_true, Bool.false_or, Bool.true_and, Bool.false_and, wipeE, unwipeE, a1, a2, a3]
  obtain ⟨nn, h2, h3⟩ := h1
  have h4 : ∃ k : Nat, ∃ p1 p3 p5 p6 p8 p9, forGo (gN 5) b_independent_rows_2 (intsFrom 0 nn) [some t, some (.d (.lst (dM rows))), none, some (.d (.int 1)), some (.d (.int 0)), none, none, none, none, none] = .ok .nx [some t, p1, none, p3, some (.d (.int (k : Int))), p5, p6, none, p8, p9] ∧ Rk rows.length n (mx rows) k := by
    rcases h2 with rfl | ⟨h2, rfl⟩
    · exact ind_loop (e := e) he hn t nn 0 rows 1 0 none none none none (by omega) (Rn.init S) hlen
    · exact ⟨0, _, _, _, _, _, _, rfl, Rk.zero fun i j hi hj => absurd hi (by rw [h2]; simp)⟩
  obtain ⟨k, p1, p3, p5, p6, p8, p9, h5, h6⟩ := h4
  refine ⟨[p1, none, p3, some (.d (.int (k : Int))), p5, p6, none, p8, p9], k, ?_, h6⟩
  have h7 : q_independent_rows_4 [some t, some (.d (.lst (dM rows))), none, some (.d (.int 1)), some (.d (.int 0)), none, none, none, none, none] = .ok .nx [some t, p1, none, p3, some (.d (.int (k : Int))), p5, p6, none, p8, p9] := by
    refine (for_at h3 rfl (fR1_nat (n := nn) (by omega)) rfl h5).trans ?_
    rfl
  rw [seq_nx h7]
  simp only [p_stepC, p_stepF, p_seq, p_asg, p_drop, p_ret, p_pass, p_break, p_cont, p_ifs, p_if, p_de, p_ed, p_eo, p_do, p_use, p_move, p_pk, p_c, p_op2, p_op1, p_b, p_andT, p_orT, p_notT, p_tru, p_andV, p_orV, p_notV, p_aug, p_par, p_lst, p_tup, p_upd, p_isN, p_notN, p_isi, p_sl, p_inone, p_isome, p_cb, p_call, p_callk, p_anil, p_acons, p_dnil, p_dcons, p_enil, p_econs, p_yes, p_gn, p_gnil, p_gcons, p_gtup, p_gsub, p_cres, n_crT, n_cr2, takeOps, putOps, isOwnL, n_f1, atAll, Op.at, Rs.map_ok, n_bind, n_ap1, n_ap2, n_apL, Rs.bind_exc, Rs.bind_bad, n_of, Rs.of_none, Option.bind_some, Option.bind_none, Option.join_some, Option.map_some,
  List.getElem?_cons_zero, List.getElem?_cons_succ, List.getElem?_nil, List.set_cons_zero, List.set_cons_succ, List.length_cons, List.length_nil, T.toD, bl?_d, Nat.zero_lt_succ, Nat.succ_lt_succ_iff, if_true, if_false, reduceIte, reduceCtorEq, List.map_cons, List.map_nil, List.cons_append, List.nil_append, List.replicate_succ, List.replicate_zero, Nat.reduceAdd, Nat.reduceSub, Nat.reduceLT, Nat.reduceLeDiff, Nat.reduceEqDiff, bAdd_ii, bSub_ii, bMul_small, bMod_pos, bFdiv_pos, bPow_small, Int.reduceToNat, Int.reducePow, decide_eq_true_eq, decide_true, decide_false, bLt_ii, bGe_ii, bGt_ii, bLe_ii, bEq_ii, bNe_ii, bInt_i, bLen_l, bLen_d, bLen_ro, bLen_t, bList_l, bList_d, bList_ro, bList_t, bTuple_l, bTuple_d, bTuple_t, uAppend_one, uInsert_one, uPopAt_one, outs, aHas, aNo, aOne, aOr, bIx_l, bIx_d, bIx_t, bIx_ro, bTru, atI_lit, ixN_lit, bSl_l, bSl_d, bSl_ro, isi_l, isi_d, isi_t, isi_i, isi_b, isi_s, isi_n, Rs.env_ok, fSeq_l, fSeq_d, fSeq_ro, fSeq_t, fZip_ll, fZip_ld, fZip_dl, fZip_dd, fZip_tt, fEnum_l, fEnum_d, bIsN_of, bNotN_of, isNon_i, isNon_b, isNon_s, isNon_l, isNon_t, isNon_n, Tn.any, Tn.sub, eq_self, Bool.or_self, Bool.and_self, Bool.or_false, ne_eq, not_true, not_false_eq_true, and_self, and_true, true_and, opsFree, List.all_cons, List.all_nil, bEq_bb, bEq_ss, bNe_bb, bNe_ss, Bool.and_true, Bool.not_true, Bool.not_false, Bool.false_eq_true, List.any_cons, List.any_nil, Nat.reduceBEq, Bool.or_false, Bool.or_true, Bool.false_or, Bool.true_and, Bool.false_and, wipeE, unwipeE]
theorem ind_ok {t : T} {rows : List Row} {n e : Nat} (ht : RowsT t rows) (hr : ∀ r ∈ rows, r.length = n) (hn : n ≤ 7) (hlen : rows.length ≤ 20) (he : e ≤ 1000) (hb : ∀ r ∈ rows, ∀ j, (at0 r j).natAbs ≤ 2 ^ e) : ∃ k : Nat, m_independent_rows [t] = .ok (.d (.int k)) [some t] ∧ Rk rows.length n (mx rows) k := by
  obtain ⟨e', k, k1, k2⟩ := ind_run ht hr hn hlen he hb
  refine ⟨k, ?_, k2⟩
  unfold m_independent_rows
  refine Eq.trans (fn_ret (by rfl) k1) ?_
  cases ht <;> rfl
end NS
namespace NS
open PySem L2 LA
/-! ### plain data that is compared -/
inductive Dq : Nat → D → Prop where
  | int (n : Nat) (i : Int) : Dq n (.int i)
  | bl (n : Nat) (i : Bool) : Dq n (.bl i)
  | non (n : Nat) : Dq n .non
  | lst (n : Nat) (xs : List D) : (∀ x ∈ xs, Dq n x) → Dq (n + 1) (.lst xs)
  | tup (n : Nat) (xs : List D) : (∀ x ∈ xs, Dq n x) → Dq (n + 1) (.tup xs)
theorem pys_of {n : Nat} (ih : ∀ d, Dq n d → ∃ p, d.py = some p ∧ p.canLay0 = true ∧ p.depth ≤ n) : ∀ xs : List D, (∀ x ∈ xs, Dq n x) → ∃ ys, D.pys xs = some ys ∧ PyData.canLayAll0 ys = true ∧ PyData.depthAll ys ≤ n ∧ ys.length = xs.length
  | [], _ => ⟨[], rfl, rfl, Nat.zero_le n, rfl⟩
  | x :: r, h => by
    obtain ⟨p, h1, h2, h3⟩ := ih x (h x List.mem_cons_self)
    obtain ⟨ys, h4, h5, h6, h7⟩ := pys_of ih r fun x hx => h x (List.mem_cons_of_mem _ hx)
    refine ⟨p :: ys, by simp [D.pys, h1, h4], by simp [PyData.canLayAll0, h2, h5], ?_, by simp [h7]⟩
    show max p.depth (PyData.depthAll ys) ≤ n
    omega
theorem py_of : ∀ (n : Nat) (d : D), Dq n d → ∃ p, d.py = some p ∧ p.canLay0 = true ∧ p.depth ≤ n
  | n, _, .int _ i => ⟨_, rfl, rfl, Nat.zero_le n⟩
  | n, _, .bl _ i => ⟨_, rfl, rfl, Nat.zero_le n⟩
  | n, _, .non _ => ⟨_, rfl, rfl, Nat.zero_le n⟩
  | n + 1, _, .lst _ xs hx => by
    obtain ⟨ys, h1, h2, h3, _⟩ := pys_of (py_of n) xs hx
    refine ⟨.list ys, by simp [D.py, h1], by simp [PyData.canLay0, h2], ?_⟩
    show PyData.depthAll ys + 1 ≤ n + 1
    omega
  | n + 1, _, .tup _ xs hx => by
    obtain ⟨ys, h1, h2, h3, _⟩ := pys_of (py_of n) xs hx
    refine ⟨.tuple ys, by simp [D.py, h1], by simp [PyData.canLay0, h2], ?_⟩
    show PyData.depthAll ys + 1 ≤ n + 1
    omega
theorem eqD_nil {n : Nat} {xs : List D} (hn : n ≤ 63) (hx : ∀ x ∈ xs, Dq n x) (t : T) (ht : t.toD = .lst xs) : fEqD t (.l []) = some (.d (.bl xs.isEmpty)) := by
  obtain ⟨ys, h1, h2, h3, h4⟩ := pys_of (py_of n) xs hx
  have e1 : D.py (.lst xs) = some (.list ys) := by simp [D.py, h1]
  have e2 : D.py (.lst []) = some (.list []) := rfl
  unfold fEqD
  rw [ht, e1]
  have e3 : (T.l []).toD.py = some (.list []) := e2
  rw [Option.bind_some, e3, Option.bind_some]
  have s1 : SeqAt.shaped (.list ys) = true := by
    unfold SeqAt.shaped
    have : (PyData.list ys).depth = PyData.depthAll ys + 1 := rfl
    rw [this]
    simp [PyData.canLay0, h2]
    omega
  have s2 : SeqAt.shaped (.list []) = true := by decide
  show (if SeqAt.shaped (.list ys) = true ∧ SeqAt.shaped (.list []) = true then some (T.d (.bl (PyData.eqv (.list ys) (.list [])))) else none) = _
  rw [if_pos ⟨s1, s2⟩]
  cases ys with
  | nil =>
    have : xs = [] := List.length_eq_zero_iff.mp (by simpa using h4.symm)
    rw [this]; rfl
  | cons y r =>
    cases xs with
    | nil => simp at h4
    | cons x s => rfl
theorem bEq_nil_d {n : Nat} {xs : List D} (hn : n ≤ 63) (hx : ∀ x ∈ xs, Dq n x) : bEq (.d (.lst xs)) (.l []) = some (.d (.bl xs.isEmpty)) := by
  show orE fEqS fEqD _ _ = _
  rw [orE_none rfl, eqD_nil hn hx _ rfl]
theorem bEq_nil_l {n : Nat} {xs : List D} (hn : n ≤ 63) (hx : ∀ x ∈ xs, Dq n x) : bEq (.l xs) (.l []) = some (.d (.bl xs.isEmpty)) := by
  show orE fEqS fEqD _ _ = _
  rw [orE_none rfl, eqD_nil hn hx _ rfl]
theorem bNe_nil_d {n : Nat} {xs : List D} (hn : n ≤ 63) (hx : ∀ x ∈ xs, Dq n x) : bNe (.d (.lst xs)) (.l []) = some (.d (.bl (!xs.isEmpty))) := by
  unfold bNe; rw [bEq_nil_d hn hx]; rfl
theorem bNe_nil_l {n : Nat} {xs : List D} (hn : n ≤ 63) (hx : ∀ x ∈ xs, Dq n x) : bNe (.l xs) (.l []) = some (.d (.bl (!xs.isEmpty))) := by
  unfold bNe; rw [bEq_nil_l hn hx]; rfl
theorem dM_q (rows : List Row) : ∀ x ∈ dM rows, Dq 1 x := fun x hx => by
  unfold dM at hx
  obtain ⟨r, _, rfl⟩ := List.mem_map.mp hx
  refine .lst 0 _ fun y hy => ?_
  obtain ⟨i, _, rfl⟩ := List.mem_map.mp hy
  exact .int 0 i
end NS
namespace NS
open PySem L2 LA
theorem erase_at0 (r : Row) (k j : Nat) : at0 (r.eraseIdx k) j = at0 r (skp k j) := by
  unfold at0 skp
  rw [List.getD_eq_getElem?_getD, List.getD_eq_getElem?_getD, List.getElem?_eraseIdx]
  split <;> rfl
theorem fits_e {x : Int} {e : Nat} (h : x.natAbs ≤ 2 ^ e) (he : e ≤ 9000) : Fits x := Nat.le_trans h (Nat.pow_le_pow_right (by decide) (by omega))
theorem cut_row {r : Row} {k : Nat} : cutD (r.map D.int) none (some (k : Int)) ++ cutD (r.map D.int) (some ((k : Int) + 1)) none = (r.eraseIdx k).map D.int := by
  rw [cut_to (by omega), cut_from (by omega), show ((k : Int) + 1).toNat = k + 1 by omega, Int.toNat_natCast, List.eraseIdx_eq_take_drop_succ, List.map_append, List.map_take, List.map_drop]
theorem cut_tail {rows : List Row} : cutD (dM rows) (some 1) none = dM (rows.drop 1) := by
  rw [cut_from (by omega)]; unfold dM; rw [← List.map_drop]; rfl
def lterm (n : Nat) (M : Mx) (k : Nat) : Int := sg k * M 0 k * det n (mnr M 0 k)
theorem minor_go {rows : List Row} {k n : Nat} (hr : ∀ r ∈ rows, r.length = n) (hn : n ≤ 1000) (hl : rows.length ≤ 1000) (a b : Option T) :
    compGo [3] (gN 3) mYes (mED (mOp2 bAdd (mEO (mSl (mPk 3) iNone (iSome (mUse 2)))) (mEO (mSl (mPk 3) (iSome (mED (mOp2 bAdd (mPk 2) (mDO (mC (.int 1)))))) iNone)))) (dM rows) [a, b, some (.d (.int (k : Int))), none] [] = .ok (dM (rows.map fun r => r.eraseIdx k)) [a, b, some (.d (.int (k : Int))), none] := by
  refine (comp_mapW dR (fun r => some (dR (r.eraseIdx k))) rows [] (fun r hr' => ?_) (by rw [sizeLine_val]; simp only [List.length_nil]; omega)).trans (by rw [List.nil_append, filterMap_all]; unfold dM; rw [List.map_map]; rfl)
  have ls : (cutD (r.map D.int) none (some (k : Int))).length + (cutD (r.map D.int) (some ((k : Int) + 1)) none).length ≤ sizeLine := by
    rw [← List.length_append, cut_row, List.length_map, sizeLine_val]
    have := List.length_eraseIdx_le r k
    have := hr r hr'
    omega
  unfold dR
  simp only [p_stepC, p_stepF, p_seq, p_asg, p_drop, p_ret, p_pass, p_break, p_cont, p_ifs, p_if, p_de, p_ed, p_eo, p_do, p_use, p_move, p_pk, p_c, p_op2, p_op1, p_b, p_andT, p_orT, p_notT, p_tru, p_andV, p_orV, p_notV, p_aug, p_par, p_lst, p_tup, p_upd, p_isN, p_notN, p_isi, p_sl, p_inone, p_isome, p_cb, p_call, p_callk, p_anil, p_acons, p_dnil, p_dcons, p_enil, p_econs, p_yes, p_gn, p_gnil, p_gcons, p_gtup, p_gsub, p_cres, n_crT, n_cr2, takeOps, putOps, isOwnL, n_f1, atAll, Op.at, Rs.map_ok, n_bind, n_ap1, n_ap2, n_apL, Rs.bind_exc, Rs.bind_bad, n_of, Rs.of_none, Option.bind_some, Option.bind_none, Option.join_some, Option.map_some,
  List.getElem?_cons_zero, List.getElem?_cons_succ, List.getElem?_nil, List.set_cons_zero, List.set_cons_succ, List.length_cons, List.length_nil, T.toD, bl?_d, Nat.zero_lt_succ, Nat.succ_lt_succ_iff, if_true, if_false, reduceIte, reduceCtorEq, List.map_cons, List.map_nil, List.cons_append, List.nil_append, List.replicate_succ, List.replicate_zero, Nat.reduceAdd, Nat.reduceSub, Nat.reduceLT, Nat.reduceLeDiff, Nat.reduceEqDiff, bAdd_ii, bSub_ii, bMul_small, bMod_pos, bFdiv_pos, bPow_small, Int.reduceToNat, Int.reducePow, decide_eq_true_eq, decide_true, decide_false, bLt_ii, bGe_ii, bGt_ii, bLe_ii, bEq_ii, bNe_ii, bInt_i, bLen_l, bLen_d, bLen_ro, bLen_t, bList_l, bList_d, bList_ro, bList_t, bTuple_l, bTuple_d, bTuple_t, uAppend_one, uInsert_one, uPopAt_one, outs, aHas, aNo, aOne, aOr, bIx_l, bIx_d, bIx_t, bIx_ro, bTru, atI_lit, ixN_lit, bSl_l, bSl_d, bSl_ro, isi_l, isi_d, isi_t, isi_i, isi_b, isi_s, isi_n, Rs.env_ok, fSeq_l, fSeq_d, fSeq_ro, fSeq_t, fZip_ll, fZip_ld, fZip_dl, fZip_dd, fZip_tt, fEnum_l, fEnum_d, bIsN_of, bNotN_of, isNon_i, isNon_b, isNon_s, isNon_l, isNon_t, isNon_n, Tn.any, Tn.sub, eq_self, Bool.or_self, Bool.and_self, Bool.or_false, ne_eq, not_true, not_false_eq_true, and_self, and_true, true_and, opsFree, List.all_cons, List.all_nil, bEq_bb, bEq_ss, bNe_bb, bNe_ss, Bool.and_true, Bool.not_true, Bool.not_false, Bool.false_eq_true, List.any_cons, List.any_nil, Nat.reduceBEq, Bool.or_false, Bool.or_true, Bool.false_or, Bool.true_and, Bool.false_and, wipeE, unwipeE, bAdd_ll, ls, cut_row]
theorem ldet_ok {e : Nat} (he : e ≤ 1000) : ∀ (d n : Nat) (rows : List Row), n < d → n ≤ 7 → rows.length = n → (∀ r ∈ rows, r.length = n) → (∀ r ∈ rows, ∀ j, (at0 r j).natAbs ≤ 2 ^ e) → m__law_det d [.d (.lst (dM rows))] = .ok (.d (.int (det n (mx rows)))) [some (.d (.lst (dM rows)))]
  | 0, _, _, h, _, _, _, _ => by omega
  | d + 1, n, rows, hd, hn, hl, hr, hb => by
    have key : ∃ e', mb__law_det (m__law_det d) [some (.d (.lst (dM rows))), none, none, none] = .ok (.rt (.d (.int (det n (mx rows))))) (some (.d (.lst (dM rows))) :: e') := by
      have q0 := bEq_nil_d (n := 1) (by omega) (dM_q rows)
      cases n with
      | zero =>
        have : rows = [] := List.length_eq_zero_iff.mp hl
        subst this
        refine ⟨[none, none, none], ?_⟩
        unfold mb__law_det q__law_det_2
        have q1 : (dM []).isEmpty = true := rfl
        rw [q1] at q0
        simp only [p_stepC, p_stepF, p_seq, p_asg, p_drop, p_ret, p_pass, p_break, p_cont, p_ifs, p_if, p_de, p_ed, p_eo, p_do, p_use, p_move, p_pk, p_c, p_op2, p_op1, p_b, p_andT, p_orT, p_notT, p_tru, p_andV, p_orV, p_notV, p_aug, p_par, p_lst, p_tup, p_upd, p_isN, p_notN, p_isi, p_sl, p_inone, p_isome, p_cb, p_call, p_callk, p_anil, p_acons, p_dnil, p_dcons, p_enil, p_econs, p_yes, p_gn, p_gnil, p_gcons, p_gtup, p_gsub, p_cres, n_crT, n_cr2, takeOps, putOps, isOwnL, n_f1, atAll, Op.at, Rs.map_ok, n_bind, n_ap1, n_ap2, n_apL, Rs.bind_exc, Rs.bind_bad, n_of, Rs.of_none, Option.bind_some, Option.bind_none, Option.join_some, Option.map_some,
  List.getElem?_cons_zero, List.getElem?_cons_succ, List.getElem?_nil, List.set_cons_zero, List.set_cons_succ, List.length_cons, List.length_nil, T.toD, bl?_d, Nat.zero_lt_succ, Nat.succ_lt_succ_iff, if_true, if_false, reduceIte, reduceCtorEq, List.map_cons, List.map_nil, List.cons_append, List.nil_append, List.replicate_succ, List.replicate_zero, Nat.reduceAdd, Nat.reduceSub, Nat.reduceLT, Nat.reduceLeDiff, Nat.reduceEqDiff, bAdd_ii, bSub_ii, bMul_small, bMod_pos, bFdiv_pos, bPow_small, Int.reduceToNat, Int.reducePow, decide_eq_true_eq, decide_true, decide_false, bLt_ii, bGe_ii, bGt_ii, bLe_ii, bEq_ii, bNe_ii, bInt_i, bLen_l, bLen_d, bLen_ro, bLen_t, bList_l, bList_d, bList_ro, bList_t, bTuple_l, bTuple_d, bTuple_t, uAppend_one, uInsert_one, uPopAt_one, outs, aHas, aNo, aOne, aOr, bIx_l, bIx_d, bIx_t, bIx_ro, bTru, atI_lit, ixN_lit, bSl_l, bSl_d, bSl_ro, isi_l, isi_d, isi_t, isi_i, isi_b, isi_s, isi_n, Rs.env_ok, fSeq_l, fSeq_d, fSeq_ro, fSeq_t, fZip_ll, fZip_ld, fZip_dl, fZip_dd, fZip_tt, fEnum_l, fEnum_d, bIsN_of, bNotN_of, isNon_i, isNon_b, isNon_s, isNon_l, isNon_t, isNon_n, Tn.any, Tn.sub, eq_self, Bool.or_self, Bool.and_self, Bool.or_false, ne_eq, not_true, not_false_eq_true, and_self, and_true, true_and, opsFree, List.all_cons, List.all_nil, bEq_bb, bEq_ss, bNe_bb, bNe_ss, Bool.and_true, Bool.not_true, Bool.not_false, Bool.false_eq_true, List.any_cons, List.any_nil, Nat.reduceBEq, Bool.or_false, Bool.or_true, Bool.false_or, Bool.true_and, Bool.false_and, wipeE, unwipeE, q0, sizeLine_val]
        rfl
      | succ n =>
        have q1 : (dM rows).isEmpty = false := by
          cases rows with
          | nil => simp at hl
          | cons r s => rfl
        rw [q1] at q0
        have e1 : (mSeq q__law_det_2 (mSeq (mAsg (mDE (mC (.int 0))) (gN 1)) mNx)) [some (.d (.lst (dM rows))), none, none, none] = .ok .nx [some (.d (.lst (dM rows))), some (.d (.int 0)), none, none] := by
          unfold q__law_det_2
          simp only [p_stepC, p_stepF, p_seq, p_asg, p_drop, p_ret, p_pass, p_break, p_cont, p_ifs, p_if, p_de, p_ed, p_eo, p_do, p_use, p_move, p_pk, p_c, p_op2, p_op1, p_b, p_andT, p_orT, p_notT, p_tru, p_andV, p_orV, p_notV, p_aug, p_par, p_lst, p_tup, p_upd, p_isN, p_notN, p_isi, p_sl, p_inone, p_isome, p_cb, p_call, p_callk, p_anil, p_acons, p_dnil, p_dcons, p_enil, p_econs, p_yes, p_gn, p_gnil, p_gcons, p_gtup, p_gsub, p_cres, n_crT, n_cr2, takeOps, putOps, isOwnL, n_f1, atAll, Op.at, Rs.map_ok, n_bind, n_ap1, n_ap2, n_apL, Rs.bind_exc, Rs.bind_bad, n_of, Rs.of_none, Option.bind_some, Option.bind_none, Option.join_some, Option.map_some,
  List.getElem?_cons_zero, List.getElem?_cons_succ, List.getElem?_nil, List.set_cons_zero, List.set_cons_succ, List.length_cons, List.length_nil, T.toD, bl?_d, Nat.zero_lt_succ, Nat.succ_lt_succ_iff, if_true, if_false, reduceIte, reduceCtorEq, List.map_cons, List.map_nil, List.cons_append, List.nil_append, List.replicate_succ, List.replicate_zero, Nat.reduceAdd, Nat.reduceSub, Nat.reduceLT, Nat.reduceLeDiff, Nat.reduceEqDiff, bAdd_ii, bSub_ii, bMul_small, bMod_pos, bFdiv_pos, bPow_small, Int.reduceToNat, Int.reducePow, decide_eq_true_eq, decide_true, decide_false, bLt_ii, bGe_ii, bGt_ii, bLe_ii, bEq_ii, bNe_ii, bInt_i, bLen_l, bLen_d, bLen_ro, bLen_t, bList_l, bList_d, bList_ro, bList_t, bTuple_l, bTuple_d, bTuple_t, uAppend_one, uInsert_one, uPopAt_one, outs, aHas, aNo, aOne, aOr, bIx_l, bIx_d, bIx_t, bIx_ro, bTru, atI_lit, ixN_lit, bSl_l, bSl_d, bSl_ro, isi_l, isi_d, isi_t, isi_i, isi_b, isi_s, isi_n, Rs.env_ok, fSeq_l, fSeq_d, fSeq_ro, fSeq_t, fZip_ll, fZip_ld, fZip_dl, fZip_dd, fZip_tt, fEnum_l, fEnum_d, bIsN_of, bNotN_of, isNon_i, isNon_b, isNon_s, isNon_l, isNon_t, isNon_n, Tn.any, Tn.sub, eq_self, Bool.or_self, Bool.and_self, Bool.or_false, ne_eq, not_true, not_false_eq_true, and_self, and_true, true_and, opsFree, List.all_cons, List.all_nil, bEq_bb, bEq_ss, bNe_bb, bNe_ss, Bool.and_true, Bool.not_true, Bool.not_false, Bool.false_eq_true, List.any_cons, List.any_nil, Nat.reduceBEq, Bool.or_false, Bool.or_true, Bool.false_or, Bool.true_and, Bool.false_and, wipeE, unwipeE, q0, sizeLine_val]
        have h0 : 0 < rows.length := by omega
        obtain ⟨e', h1, o, rfl⟩ := for_inv (g := gN 2) (b := b__law_det_1 (m__law_det d)) (fun i env => ∃ o, env = [some (.d (.lst (dM rows))), some (.d (.int (sm i (lterm n (mx rows))))), o, none]) (intsFrom 0 (n + 1)) 0 [some (.d (.lst (dM rows))), some (.d (.int 0)), none, none] ⟨none, rfl⟩ (fun j x env hx ⟨o, he'⟩ => by
          subst he'
          have hj : j < n + 1 ∧ x = .int (j : Int) := by
            rw [← rangeD_from] at hx; exact rangeD_at hx
          obtain ⟨hj, rfl⟩ := hj
          have a0 : (dM rows)[0]? = some (dR rows[0]) := dM_at h0
          have r0 : (rows[0]).length = n + 1 := hr _ (List.getElem_mem h0)
          have a1 : atI ((rows[0]).map D.int) (j : Int) = some (.int (at0 rows[0] j)) := at0_of (by omega)
          have m0 : mx rows 0 j = at0 rows[0] j := mx_lt h0 j
          rw [Nat.zero_add]
          by_cases hz : at0 rows[0] j = 0
          · refine ⟨_, ?_, some (.d (.int (j : Int))), rfl⟩
            have t0 : lterm n (mx rows) j = 0 := by unfold lterm; rw [m0, hz, Int.mul_zero, Int.zero_mul]
            have s1 : sm (j + 1) (lterm n (mx rows)) = sm j (lterm n (mx rows)) := by show _ + _ = _; rw [t0, Int.add_zero]
            rw [s1]
            unfold b__law_det_1 q__law_det_0
            unfold dR at a0
            simp only [p_stepC, p_stepF, p_seq, p_asg, p_drop, p_ret, p_pass, p_break, p_cont, p_ifs, p_if, p_de, p_ed, p_eo, p_do, p_use, p_move, p_pk, p_c, p_op2, p_op1, p_b, p_andT, p_orT, p_notT, p_tru, p_andV, p_orV, p_notV, p_aug, p_par, p_lst, p_tup, p_upd, p_isN, p_notN, p_isi, p_sl, p_inone, p_isome, p_cb, p_call, p_callk, p_anil, p_acons, p_dnil, p_dcons, p_enil, p_econs, p_yes, p_gn, p_gnil, p_gcons, p_gtup, p_gsub, p_cres, n_crT, n_cr2, takeOps, putOps, isOwnL, n_f1, atAll, Op.at, Rs.map_ok, n_bind, n_ap1, n_ap2, n_apL, Rs.bind_exc, Rs.bind_bad, n_of, Rs.of_none, Option.bind_some, Option.bind_none, Option.join_some, Option.map_some,
  List.getElem?_cons_zero, List.getElem?_cons_succ, List.getElem?_nil, List.set_cons_zero, List.set_cons_succ, List.length_cons, List.length_nil, T.toD, bl?_d, Nat.zero_lt_succ, Nat.succ_lt_succ_iff, if_true, if_false, reduceIte, reduceCtorEq, List.map_cons, List.map_nil, List.cons_append, List.nil_append, List.replicate_succ, List.replicate_zero, Nat.reduceAdd, Nat.reduceSub, Nat.reduceLT, Nat.reduceLeDiff, Nat.reduceEqDiff, bAdd_ii, bSub_ii, bMul_small, bMod_pos, bFdiv_pos, bPow_small, Int.reduceToNat, Int.reducePow, decide_eq_true_eq, decide_true, decide_false, bLt_ii, bGe_ii, bGt_ii, bLe_ii, bEq_ii, bNe_ii, bInt_i, bLen_l, bLen_d, bLen_ro, bLen_t, bList_l, bList_d, bList_ro, bList_t, bTuple_l, bTuple_d, bTuple_t, uAppend_one, uInsert_one, uPopAt_one, outs, aHas, aNo, aOne, aOr, bIx_l, bIx_d, bIx_t, bIx_ro, bTru, atI_lit, ixN_lit, bSl_l, bSl_d, bSl_ro, isi_l, isi_d, isi_t, isi_i, isi_b, isi_s, isi_n, Rs.env_ok, fSeq_l, fSeq_d, fSeq_ro, fSeq_t, fZip_ll, fZip_ld, fZip_dl, fZip_dd, fZip_tt, fEnum_l, fEnum_d, bIsN_of, bNotN_of, isNon_i, isNon_b, isNon_s, isNon_l, isNon_t, isNon_n, Tn.any, Tn.sub, eq_self, Bool.or_self, Bool.and_self, Bool.or_false, ne_eq, not_true, not_false_eq_true, and_self, and_true, true_and, opsFree, List.all_cons, List.all_nil, bEq_bb, bEq_ss, bNe_bb, bNe_ss, Bool.and_true, Bool.not_true, Bool.not_false, Bool.false_eq_true, List.any_cons, List.any_nil, Nat.reduceBEq, Bool.or_false, Bool.or_true, Bool.false_or, Bool.true_and, Bool.false_and, wipeE, unwipeE, a0, a1, hz]
          · refine ⟨_, ?_, some (.d (.int (j : Int))), rfl⟩
            have mm : ∀ r ∈ (rows.drop 1).map (fun r => r.eraseIdx j), r.length = n := fun r hr' => by
              obtain ⟨r1, h2, rfl⟩ := List.mem_map.mp hr'
              have := hr r1 (List.mem_of_mem_drop h2)
              rw [List.length_eraseIdx_of_lt (by omega)]; omega
            have mb : ∀ r ∈ (rows.drop 1).map (fun r => r.eraseIdx j), ∀ i, (at0 r i).natAbs ≤ 2 ^ e := fun r hr' i => by
              obtain ⟨r1, h2, rfl⟩ := List.mem_map.mp hr'
              rw [erase_at0]
              exact hb r1 (List.mem_of_mem_drop h2) _
            have rcc := ldet_ok he d n ((rows.drop 1).map fun r => r.eraseIdx j) (by omega) (by omega) (by rw [List.length_map, List.length_drop]; omega) mm mb
            have mg := minor_go (rows := rows.drop 1) (k := j) (n := n + 1) (fun r hr' => hr r (List.mem_of_mem_drop hr')) (by omega) (by rw [List.length_drop]; omega)
            have de : det n (mx ((rows.drop 1).map fun r => r.eraseIdx j)) = det n (mnr (mx rows) 0 j) := det_congr fun i i' hi hi' => by
              have hi2 : i + 1 < rows.length := by omega
              rw [mx_lt (by rw [List.length_map, List.length_drop]; omega), List.getElem_map, List.getElem_drop, erase_at0]
              unfold mnr
              have : skp 0 i = i + 1 := rfl
              rw [this, mx_lt hi2]
              simp only [Nat.add_comm 1 i]
            rw [de] at rcc
            have f1 : Fits (at0 rows[0] j) := fits_e (hb _ (List.getElem_mem h0) j) (by omega)
            have f2 : Fits (det n (mnr (mx rows) 0 j)) := by
              rw [← de]
              refine fits_e (det_abs (e := e) (by omega) fun i i' hi hi' => ?_) (by
                have : (e + 3) * n ≤ 1003 * 7 := Nat.mul_le_mul (by omega) (by omega)
                omega)
              rw [mx_lt (by rw [List.length_map, List.length_drop]; omega)]
              exact mb _ (List.getElem_mem _) i'
            have f3 : Fits (sg j) := by unfold Fits; rw [sg_abs]; exact Nat.one_le_two_pow
            have f4 : Fits (sg j * at0 rows[0] j) := by unfold Fits at *; rw [Int.natAbs_mul, sg_abs, Nat.one_mul]; exact f1
            have sj : (1 - 2 * ((j : Int) % 2)) = sg j := by unfold sg; omega
            have s1 : sm (j + 1) (lterm n (mx rows)) = sm j (lterm n (mx rows)) + sg j * at0 rows[0] j * det n (mnr (mx rows) 0 j) := by show _ + lterm n (mx rows) j = _; unfold lterm; rw [m0]
            rw [s1]
            unfold b__law_det_1 q__law_det_0
            unfold dR at a0
            simp (disch := omega) only [p_stepC, p_stepF, p_seq, p_asg, p_drop, p_ret, p_pass, p_break, p_cont, p_ifs, p_if, p_de, p_ed, p_eo, p_do, p_use, p_move, p_pk, p_c, p_op2, p_op1, p_b, p_andT, p_orT, p_notT, p_tru, p_andV, p_orV, p_notV, p_aug, p_par, p_lst, p_tup, p_upd, p_isN, p_notN, p_isi, p_sl, p_inone, p_isome, p_cb, p_call, p_callk, p_anil, p_acons, p_dnil, p_dcons, p_enil, p_econs, p_yes, p_gn, p_gnil, p_gcons, p_gtup, p_gsub, p_cres, n_crT, n_cr2, takeOps, putOps, isOwnL, n_f1, atAll, Op.at, Rs.map_ok, n_bind, n_ap1, n_ap2, n_apL, Rs.bind_exc, Rs.bind_bad, n_of, Rs.of_none, Option.bind_some, Option.bind_none, Option.join_some, Option.map_some,
  List.getElem?_cons_zero, List.getElem?_cons_succ, List.getElem?_nil, List.set_cons_zero, List.set_cons_succ, List.length_cons, List.length_nil, T.toD, bl?_d, Nat.zero_lt_succ, Nat.succ_lt_succ_iff, if_true, if_false, reduceIte, reduceCtorEq, List.map_cons, List.map_nil, List.cons_append, List.nil_append, List.replicate_succ, List.replicate_zero, Nat.reduceAdd, Nat.reduceSub, Nat.reduceLT, Nat.reduceLeDiff, Nat.reduceEqDiff, bAdd_ii, bSub_ii, bMul_small, bMod_pos, bFdiv_pos, bPow_small, Int.reduceToNat, Int.reducePow, decide_eq_true_eq, decide_true, decide_false, bLt_ii, bGe_ii, bGt_ii, bLe_ii, bEq_ii, bNe_ii, bInt_i, bLen_l, bLen_d, bLen_ro, bLen_t, bList_l, bList_d, bList_ro, bList_t, bTuple_l, bTuple_d, bTuple_t, uAppend_one, uInsert_one, uPopAt_one, outs, aHas, aNo, aOne, aOr, bIx_l, bIx_d, bIx_t, bIx_ro, bTru, atI_lit, ixN_lit, bSl_l, bSl_d, bSl_ro, isi_l, isi_d, isi_t, isi_i, isi_b, isi_s, isi_n, Rs.env_ok, fSeq_l, fSeq_d, fSeq_ro, fSeq_t, fZip_ll, fZip_ld, fZip_dl, fZip_dd, fZip_tt, fEnum_l, fEnum_d, bIsN_of, bNotN_of, isNon_i, isNon_b, isNon_s, isNon_l, isNon_t, isNon_n, Tn.any, Tn.sub, eq_self, Bool.or_self, Bool.and_self, Bool.or_false, ne_eq, not_true, not_false_eq_true, and_self, and_true, true_and, opsFree, List.all_cons, List.all_nil, bEq_bb, bEq_ss, bNe_bb, bNe_ss, Bool.and_true, Bool.not_true, Bool.not_false, Bool.false_eq_true, List.any_cons, List.any_nil, Nat.reduceBEq, Bool.or_false, Bool.or_true, Bool.false_or, Bool.true_and, Bool.false_and, wipeE, unwipeE, a0, a1, hz, sj, p_comp, cut_tail, mg, rcc, bMul_f (f3.mul f1), bMul_f (f4.mul f2)])
        refine ⟨[some (.d (.int (det (n + 1) (mx rows)))), o, none], ?_⟩
        have hlen : (intsFrom 0 (n + 1)).length = n + 1 := by unfold intsFrom; rw [List.length_map, List.length_range']
        have e2 : (q__law_det_3 (m__law_det d)) [some (.d (.lst (dM rows))), some (.d (.int 0)), none, none] = .ok .nx [some (.d (.lst (dM rows))), some (.d (.int (det (n + 1) (mx rows)))), o, none] := by
          have h2 : (aCons (mEO (mCB (f1 bLen) (aCons (mPk 0) aNil))) aNil) [some (.d (.lst (dM rows))), some (.d (.int 0)), none, none] = .ok [.tmp (.d (.int ((n + 1 : Nat) : Int)))] [some (.d (.lst (dM rows))), some (.d (.int 0)), none, none] := by
            simp only [p_stepC, p_stepF, p_seq, p_asg, p_drop, p_ret, p_pass, p_break, p_cont, p_ifs, p_if, p_de, p_ed, p_eo, p_do, p_use, p_move, p_pk, p_c, p_op2, p_op1, p_b, p_andT, p_orT, p_notT, p_tru, p_andV, p_orV, p_notV, p_aug, p_par, p_lst, p_tup, p_upd, p_isN, p_notN, p_isi, p_sl, p_inone, p_isome, p_cb, p_call, p_callk, p_anil, p_acons, p_dnil, p_dcons, p_enil, p_econs, p_yes, p_gn, p_gnil, p_gcons, p_gtup, p_gsub, p_cres, n_crT, n_cr2, takeOps, putOps, isOwnL, n_f1, atAll, Op.at, Rs.map_ok, n_bind, n_ap1, n_ap2, n_apL, Rs.bind_exc, Rs.bind_bad, n_of, Rs.of_none, Option.bind_some, Option.bind_none, Option.join_some, Option.map_some,
  List.getElem?_cons_zero, List.getElem?_cons_succ, List.getElem?_nil, List.set_cons_zero, List.set_cons_succ, List.length_cons, List.length_nil, T.toD, bl?_d, Nat.zero_lt_succ, Nat.succ_lt_succ_iff, if_true, if_false, reduceIte, reduceCtorEq, List.map_cons, List.map_nil, List.cons_append, List.nil_append, List.replicate_succ, List.replicate_zero, Nat.reduceAdd, Nat.reduceSub, Nat.reduceLT, Nat.reduceLeDiff, Nat.reduceEqDiff, bAdd_ii, bSub_ii, bMul_small, bMod_pos, bFdiv_pos, bPow_small, Int.reduceToNat, Int.reducePow, decide_eq_true_eq, decide_true, decide_false, bLt_ii, bGe_ii, bGt_ii, bLe_ii, bEq_ii, bNe_ii, bInt_i, bLen_l, bLen_d, bLen_ro, bLen_t, bList_l, bList_d, bList_ro, bList_t, bTuple_l, bTuple_d, bTuple_t, uAppend_one, uInsert_one, uPopAt_one, outs, aHas, aNo, aOne, aOr, bIx_l, bIx_d, bIx_t, bIx_ro, bTru, atI_lit, ixN_lit, bSl_l, bSl_d, bSl_ro, isi_l, isi_d, isi_t, isi_i, isi_b, isi_s, isi_n, Rs.env_ok, fSeq_l, fSeq_d, fSeq_ro, fSeq_t, fZip_ll, fZip_ld, fZip_dl, fZip_dd, fZip_tt, fEnum_l, fEnum_d, bIsN_of, bNotN_of, isNon_i, isNon_b, isNon_s, isNon_l, isNon_t, isNon_n, Tn.any, Tn.sub, eq_self, Bool.or_self, Bool.and_self, Bool.or_false, ne_eq, not_true, not_false_eq_true, and_self, and_true, true_and, opsFree, List.all_cons, List.all_nil, bEq_bb, bEq_ss, bNe_bb, bNe_ss, Bool.and_true, Bool.not_true, Bool.not_false, Bool.false_eq_true, List.any_cons, List.any_nil, Nat.reduceBEq, Bool.or_false, Bool.or_true, Bool.false_or, Bool.true_and, Bool.false_and, wipeE, unwipeE, dM_len, hl]
          refine (for_at h2 rfl (fR1_nat (n := n + 1) (by omega)) rfl h1).trans ?_
          rw [hlen, Nat.zero_add]
          rfl
        unfold mb__law_det
        rw [seq_nx2 e1, seq_nx e2]
        simp only [p_stepC, p_stepF, p_seq, p_asg, p_drop, p_ret, p_pass, p_break, p_cont, p_ifs, p_if, p_de, p_ed, p_eo, p_do, p_use, p_move, p_pk, p_c, p_op2, p_op1, p_b, p_andT, p_orT, p_notT, p_tru, p_andV, p_orV, p_notV, p_aug, p_par, p_lst, p_tup, p_upd, p_isN, p_notN, p_isi, p_sl, p_inone, p_isome, p_cb, p_call, p_callk, p_anil, p_acons, p_dnil, p_dcons, p_enil, p_econs, p_yes, p_gn, p_gnil, p_gcons, p_gtup, p_gsub, p_cres, n_crT, n_cr2, takeOps, putOps, isOwnL, n_f1, atAll, Op.at, Rs.map_ok, n_bind, n_ap1, n_ap2, n_apL, Rs.bind_exc, Rs.bind_bad, n_of, Rs.of_none, Option.bind_some, Option.bind_none, Option.join_some, Option.map_some,
  List.getElem?_cons_zero, List.getElem?_cons_succ, List.getElem?_nil, List.set_cons_zero, List.set_cons_succ, List.length_cons, List.length_nil, T.toD, bl?_d, Nat.zero_lt_succ, Nat.succ_lt_succ_iff, if_true, if_false, reduceIte, reduceCtorEq, List.map_cons, List.map_nil, List.cons_append, List.nil_append, List.replicate_succ, List.replicate_zero, Nat.reduceAdd, Nat.reduceSub, Nat.reduceLT, Nat.reduceLeDiff, Nat.reduceEqDiff, bAdd_ii, bSub_ii, bMul_small, bMod_pos, bFdiv_pos, bPow_small, Int.reduceToNat, Int.reducePow, decide_eq_true_eq, decide_true, decide_false, bLt_ii, bGe_ii, bGt_ii, bLe_ii, bEq_ii, bNe_ii, bInt_i, bLen_l, bLen_d, bLen_ro, bLen_t, bList_l, bList_d, bList_ro, bList_t, bTuple_l, bTuple_d, bTuple_t, uAppend_one, uInsert_one, uPopAt_one, outs, aHas, aNo, aOne, aOr, bIx_l, bIx_d, bIx_t, bIx_ro, bTru, atI_lit, ixN_lit, bSl_l, bSl_d, bSl_ro, isi_l, isi_d, isi_t, isi_i, isi_b, isi_s, isi_n, Rs.env_ok, fSeq_l, fSeq_d, fSeq_ro, fSeq_t, fZip_ll, fZip_ld, fZip_dl, fZip_dd, fZip_tt, fEnum_l, fEnum_d, bIsN_of, bNotN_of, isNon_i, isNon_b, isNon_s, isNon_l, isNon_t, isNon_n, Tn.any, Tn.sub, eq_self, Bool.or_self, Bool.and_self, Bool.or_false, ne_eq, not_true, not_false_eq_true, and_self, and_true, true_and, opsFree, List.all_cons, List.all_nil, bEq_bb, bEq_ss, bNe_bb, bNe_ss, Bool.and_true, Bool.not_true, Bool.not_false, Bool.false_eq_true, List.any_cons, List.any_nil, Nat.reduceBEq, Bool.or_false, Bool.or_true, Bool.false_or, Bool.true_and, Bool.false_and, wipeE, unwipeE]
    obtain ⟨e', k1⟩ := key
    unfold m__law_det
    exact Eq.trans (fn_ret (by rfl) k1) (by rfl)
end NS
namespace NS
open PySem L2 LA
def turn (rows : List Row) (n : Nat) : List Row := (List.range n).map fun t => rows.map fun r => at0 r t
theorem turn_len (rows : List Row) (n : Nat) : (turn rows n).length = n := by unfold turn; simp
theorem turn_row {rows : List Row} {n : Nat} : ∀ r ∈ turn rows n, r.length = rows.length := fun r hr => by
  unfold turn at hr
  obtain ⟨t, _, rfl⟩ := List.mem_map.mp hr
  rw [List.length_map]
theorem turn_mx {rows : List Row} {n i j : Nat} (hi : i < n) (hj : j < rows.length) : mx (turn rows n) i j = mx rows j i := by
  rw [mx_lt (by rw [turn_len]; exact hi), mx_lt hj]
  unfold turn
  rw [List.getElem_map, List.getElem_range, at0_lt (by rw [List.length_map]; exact hj), List.getElem_map]
theorem turn_abs {rows : List Row} {n B : Nat} (h : ∀ r ∈ rows, ∀ j, (at0 r j).natAbs ≤ B) : ∀ r ∈ turn rows n, ∀ j, (at0 r j).natAbs ≤ B := fun r hr j => by
  unfold turn at hr
  obtain ⟨t, _, rfl⟩ := List.mem_map.mp hr
  by_cases hj : j < rows.length
  · rw [at0_lt (by rw [List.length_map]; exact hj), List.getElem_map]
    exact h _ (List.getElem_mem hj) t
  · rw [at0_ge (by rw [List.length_map]; omega)]; exact Nat.zero_le B
theorem turn_in {rows : List Row} {n t : Nat} (hr : ∀ r ∈ rows, r.length = n) (ht : t < n) (hl : rows.length ≤ 1000) (b : Option T) :
    compGo [3] (gN 3) mYes (mED (mOp2 bIx (mPk 3) (mPk 2))) (dM rows) [some (.d (.lst (dM rows))), b, some (.d (.int (t : Int))), none] [] = .ok ((rows.map fun r => at0 r t).map D.int) [some (.d (.lst (dM rows))), b, some (.d (.int (t : Int))), none] := by
  refine (comp_mapW dR (fun r => some (.int (at0 r t))) rows [] (fun r hr' => ?_) (by rw [sizeLine_val]; simp only [List.length_nil]; omega)).trans (by rw [List.nil_append, filterMap_all, List.map_map]; rfl)
  have a1 := at0_of (r := r) (c := t) (by rw [hr r hr']; exact ht)
  unfold dR
  simp only [p_stepC, p_stepF, p_seq, p_asg, p_drop, p_ret, p_pass, p_break, p_cont, p_ifs, p_if, p_de, p_ed, p_eo, p_do, p_use, p_move, p_pk, p_c, p_op2, p_op1, p_b, p_andT, p_orT, p_notT, p_tru, p_andV, p_orV, p_notV, p_aug, p_par, p_lst, p_tup, p_upd, p_isN, p_notN, p_isi, p_sl, p_inone, p_isome, p_cb, p_call, p_callk, p_anil, p_acons, p_dnil, p_dcons, p_enil, p_econs, p_yes, p_gn, p_gnil, p_gcons, p_gtup, p_gsub, p_cres, n_crT, n_cr2, takeOps, putOps, isOwnL, n_f1, atAll, Op.at, Rs.map_ok, n_bind, n_ap1, n_ap2, n_apL, Rs.bind_exc, Rs.bind_bad, n_of, Rs.of_none, Option.bind_some, Option.bind_none, Option.join_some, Option.map_some,
  List.getElem?_cons_zero, List.getElem?_cons_succ, List.getElem?_nil, List.set_cons_zero, List.set_cons_succ, List.length_cons, List.length_nil, T.toD, bl?_d, Nat.zero_lt_succ, Nat.succ_lt_succ_iff, if_true, if_false, reduceIte, reduceCtorEq, List.map_cons, List.map_nil, List.cons_append, List.nil_append, List.replicate_succ, List.replicate_zero, Nat.reduceAdd, Nat.reduceSub, Nat.reduceLT, Nat.reduceLeDiff, Nat.reduceEqDiff, bAdd_ii, bSub_ii, bMul_small, bMod_pos, bFdiv_pos, bPow_small, Int.reduceToNat, Int.reducePow, decide_eq_true_eq, decide_true, decide_false, bLt_ii, bGe_ii, bGt_ii, bLe_ii, bEq_ii, bNe_ii, bInt_i, bLen_l, bLen_d, bLen_ro, bLen_t, bList_l, bList_d, bList_ro, bList_t, bTuple_l, bTuple_d, bTuple_t, uAppend_one, uInsert_one, uPopAt_one, outs, aHas, aNo, aOne, aOr, bIx_l, bIx_d, bIx_t, bIx_ro, bTru, atI_lit, ixN_lit, bSl_l, bSl_d, bSl_ro, isi_l, isi_d, isi_t, isi_i, isi_b, isi_s, isi_n, Rs.env_ok, fSeq_l, fSeq_d, fSeq_ro, fSeq_t, fZip_ll, fZip_ld, fZip_dl, fZip_dd, fZip_tt, fEnum_l, fEnum_d, bIsN_of, bNotN_of, isNon_i, isNon_b, isNon_s, isNon_l, isNon_t, isNon_n, Tn.any, Tn.sub, eq_self, Bool.or_self, Bool.and_self, Bool.or_false, ne_eq, not_true, not_false_eq_true, and_self, and_true, true_and, opsFree, List.all_cons, List.all_nil, bEq_bb, bEq_ss, bNe_bb, bNe_ss, Bool.and_true, Bool.not_true, Bool.not_false, Bool.false_eq_true, List.any_cons, List.any_nil, Nat.reduceBEq, Bool.or_false, Bool.or_true, Bool.false_or, Bool.true_and, Bool.false_and, wipeE, unwipeE, a1]
theorem turned_ok {rows : List Row} {n : Nat} (hr : ∀ r ∈ rows, r.length = n) (hn : n ≤ 1000) (hl : rows.length ≤ 1000) : m__law_turned [.d (.lst (dM rows)), .d (.int (n : Int))] = .ok (.d (.lst (dM (turn rows n)))) [some (.d (.lst (dM rows))), some (.d (.int (n : Int)))] := by
  have c1 : compGo [2] (gN 2) mYes (mED (mComp [3] fSeq (aCons (mPk 0) aNil) (gN 3) mYes (mED (mOp2 bIx (mPk 3) (mPk 2))))) (intsFrom 0 n) [some (.d (.lst (dM rows))), some (.d (.int (n : Int))), none, none] [] = .ok (dM (turn rows n)) [some (.d (.lst (dM rows))), some (.d (.int (n : Int))), none, none] := by
    unfold intsFrom
    refine (comp_mapW (fun i : Nat => D.int (i : Int)) (fun t => some (dR (rows.map fun r => at0 r t))) (List.range' 0 n) [] (fun t ht => ?_) (by rw [List.length_range', sizeLine_val]; simp only [List.length_nil]; omega)).trans (by
      rw [List.nil_append, filterMap_all, ← List.range_eq_range']; unfold dM turn; rw [List.map_map]; rfl)
    have ht' : t < n := by
      have := List.mem_range'_1.mp ht; omega
    have t1 := turn_in hr ht' hl (some (.d (.int (n : Int))))
    unfold dR
    simp only [p_stepC, p_stepF, p_seq, p_asg, p_drop, p_ret, p_pass, p_break, p_cont, p_ifs, p_if, p_de, p_ed, p_eo, p_do, p_use, p_move, p_pk, p_c, p_op2, p_op1, p_b, p_andT, p_orT, p_notT, p_tru, p_andV, p_orV, p_notV, p_aug, p_par, p_lst, p_tup, p_upd, p_isN, p_notN, p_isi, p_sl, p_inone, p_isome, p_cb, p_call, p_callk, p_anil, p_acons, p_dnil, p_dcons, p_enil, p_econs, p_yes, p_gn, p_gnil, p_gcons, p_gtup, p_gsub, p_cres, n_crT, n_cr2, takeOps, putOps, isOwnL, n_f1, atAll, Op.at, Rs.map_ok, n_bind, n_ap1, n_ap2, n_apL, Rs.bind_exc, Rs.bind_bad, n_of, Rs.of_none, Option.bind_some, Option.bind_none, Option.join_some, Option.map_some,
  List.getElem?_cons_zero, List.getElem?_cons_succ, List.getElem?_nil, List.set_cons_zero, List.set_cons_succ, List.length_cons, List.length_nil, T.toD, bl?_d, Nat.zero_lt_succ, Nat.succ_lt_succ_iff, if_true, if_false, reduceIte, reduceCtorEq, List.map_cons, List.map_nil, List.cons_append, List.nil_append, List.replicate_succ, List.replicate_zero, Nat.reduceAdd, Nat.reduceSub, Nat.reduceLT, Nat.reduceLeDiff, Nat.reduceEqDiff, bAdd_ii, bSub_ii, bMul_small, bMod_pos, bFdiv_pos, bPow_small, Int.reduceToNat, Int.reducePow, decide_eq_true_eq, decide_true, decide_false, bLt_ii, bGe_ii, bGt_ii, bLe_ii, bEq_ii, bNe_ii, bInt_i, bLen_l, bLen_d, bLen_ro, bLen_t, bList_l, bList_d, bList_ro, bList_t, bTuple_l, bTuple_d, bTuple_t, uAppend_one, uInsert_one, uPopAt_one, outs, aHas, aNo, aOne, aOr, bIx_l, bIx_d, bIx_t, bIx_ro, bTru, atI_lit, ixN_lit, bSl_l, bSl_d, bSl_ro, isi_l, isi_d, isi_t, isi_i, isi_b, isi_s, isi_n, Rs.env_ok, fSeq_l, fSeq_d, fSeq_ro, fSeq_t, fZip_ll, fZip_ld, fZip_dl, fZip_dd, fZip_tt, fEnum_l, fEnum_d, bIsN_of, bNotN_of, isNon_i, isNon_b, isNon_s, isNon_l, isNon_t, isNon_n, Tn.any, Tn.sub, eq_self, Bool.or_self, Bool.and_self, Bool.or_false, ne_eq, not_true, not_false_eq_true, and_self, and_true, true_and, opsFree, List.all_cons, List.all_nil, bEq_bb, bEq_ss, bNe_bb, bNe_ss, Bool.and_true, Bool.not_true, Bool.not_false, Bool.false_eq_true, List.any_cons, List.any_nil, Nat.reduceBEq, Bool.or_false, Bool.or_true, Bool.false_or, Bool.true_and, Bool.false_and, wipeE, unwipeE, p_comp, t1]
  have h1 : (aCons (mPk 1) aNil) [some (.d (.lst (dM rows))), some (.d (.int (n : Int))), none, none] = .ok [.pk 1] [some (.d (.lst (dM rows))), some (.d (.int (n : Int))), none, none] := by simp only [p_stepC, p_stepF, p_seq, p_asg, p_drop, p_ret, p_pass, p_break, p_cont, p_ifs, p_if, p_de, p_ed, p_eo, p_do, p_use, p_move, p_pk, p_c, p_op2, p_op1, p_b, p_andT, p_orT, p_notT, p_tru, p_andV, p_orV, p_notV, p_aug, p_par, p_lst, p_tup, p_upd, p_isN, p_notN, p_isi, p_sl, p_inone, p_isome, p_cb, p_call, p_callk, p_anil, p_acons, p_dnil, p_dcons, p_enil, p_econs, p_yes, p_gn, p_gnil, p_gcons, p_gtup, p_gsub, p_cres, n_crT, n_cr2, takeOps, putOps, isOwnL, n_f1, atAll, Op.at, Rs.map_ok, n_bind, n_ap1, n_ap2, n_apL, Rs.bind_exc, Rs.bind_bad, n_of, Rs.of_none, Option.bind_some, Option.bind_none, Option.join_some, Option.map_some,
  List.getElem?_cons_zero, List.getElem?_cons_succ, List.getElem?_nil, List.set_cons_zero, List.set_cons_succ, List.length_cons, List.length_nil, T.toD, bl?_d, Nat.zero_lt_succ, Nat.succ_lt_succ_iff, if_true, if_false, reduceIte, reduceCtorEq, List.map_cons, List.map_nil, List.cons_append, List.nil_append, List.replicate_succ, List.replicate_zero, Nat.reduceAdd, Nat.reduceSub, Nat.reduceLT, Nat.reduceLeDiff, Nat.reduceEqDiff, bAdd_ii, bSub_ii, bMul_small, bMod_pos, bFdiv_pos, bPow_small, Int.reduceToNat, Int.reducePow, decide_eq_true_eq, decide_true, decide_false, bLt_ii, bGe_ii, bGt_ii, bLe_ii, bEq_ii, bNe_ii, bInt_i, bLen_l, bLen_d, bLen_ro, bLen_t, bList_l, bList_d, bList_ro, bList_t, bTuple_l, bTuple_d, bTuple_t, uAppend_one, uInsert_one, uPopAt_one, outs, aHas, aNo, aOne, aOr, bIx_l, bIx_d, bIx_t, bIx_ro, bTru, atI_lit, ixN_lit, bSl_l, bSl_d, bSl_ro, isi_l, isi_d, isi_t, isi_i, isi_b, isi_s, isi_n, Rs.env_ok, fSeq_l, fSeq_d, fSeq_ro, fSeq_t, fZip_ll, fZip_ld, fZip_dl, fZip_dd, fZip_tt, fEnum_l, fEnum_d, bIsN_of, bNotN_of, isNon_i, isNon_b, isNon_s, isNon_l, isNon_t, isNon_n, Tn.any, Tn.sub, eq_self, Bool.or_self, Bool.and_self, Bool.or_false, ne_eq, not_true, not_false_eq_true, and_self, and_true, true_and, opsFree, List.all_cons, List.all_nil, bEq_bb, bEq_ss, bNe_bb, bNe_ss, Bool.and_true, Bool.not_true, Bool.not_false, Bool.false_eq_true, List.any_cons, List.any_nil, Nat.reduceBEq, Bool.or_false, Bool.or_true, Bool.false_or, Bool.true_and, Bool.false_and, wipeE, unwipeE]
  have c2 := comp_at (vs := [2]) (g := gN 2) (t := mYes) h1 rfl (fR1_nat (n := n) hn) c1
  have k1 : mb__law_turned [some (.d (.lst (dM rows))), some (.d (.int (n : Int))), none, none] = .ok (.rt (.d (.lst (dM (turn rows n))))) [some (.d (.lst (dM rows))), some (.d (.int (n : Int))), none, none] := by
    unfold mb__law_turned q__law_turned_0
    rw [p_ret, p_de, p_ed, c2]
    rfl
  unfold m__law_turned
  exact Eq.trans (fn_ret (by rfl) k1) (by rfl)
end NS
namespace NS
open PySem L2 LA
/-- a row cleared without a division -/
def cl2 (pv r : Row) (t : Nat) : Row := List.zipWith (fun x y => at0 pv t * x - at0 r t * y) r pv
theorem cl2_len {r pv : Row} {n t : Nat} (h1 : r.length = n) (h2 : pv.length = n) : (cl2 pv r t).length = n := by unfold cl2; simp [h1, h2]
theorem cl2_at {r pv : Row} {n t : Nat} (h1 : r.length = n) (h2 : pv.length = n) (j : Nat) : at0 (cl2 pv r t) j = at0 pv t * at0 r j - at0 r t * at0 pv j := by
  by_cases h : j < n
  · rw [at0_lt (by rw [cl2_len h1 h2]; exact h), at0_lt (by omega : j < r.length), at0_lt (by omega : j < pv.length)]
    unfold cl2
    rw [List.getElem_zipWith]
  · rw [at0_ge (by rw [cl2_len h1 h2]; omega), at0_ge (r := r) (j := j) (by omega), at0_ge (r := pv) (j := j) (by omega), Int.mul_zero, Int.mul_zero, Int.sub_self]
def bnd (e : Nat) : Nat → Nat
  | 0 => e
  | c + 1 => 2 * bnd e c + 1
theorem bnd_le {e : Nat} (he : e ≤ 1000) {c : Nat} (hc : c ≤ 7) : bnd e c ≤ 200000 := by
  have h : ∀ c, bnd e c + 1 = 2 ^ c * (e + 1) := fun c => by
    induction c with
    | zero => simp [bnd]
    | succ c ih => rw [Nat.pow_succ]; show 2 * bnd e c + 1 + 1 = _; grind
  have h1 := h c
  have h2 : 2 ^ c ≤ 2 ^ 7 := Nat.pow_le_pow_right (by decide) hc
  have h3 : 2 ^ c * (e + 1) ≤ 2 ^ 7 * 1001 := Nat.mul_le_mul h2 (by omega)
  omega
structure Kn (n e c k m0 : Nat) (M : Mx) (rest : List Row) : Prop where
  len : ∀ r ∈ rest, r.length = n
  bd : ∀ r ∈ rest, ∀ j, (at0 r j).natAbs ≤ 2 ^ bnd e c
  zr : ∀ j, j < c → ∀ r ∈ rest, at0 r j = 0
  rk : ∀ q, Rk rest.length n (mx rest) q → Rk m0 n M (k + q)
theorem Kn.init {n e : Nat} {rows : List Row} (hl : ∀ r ∈ rows, r.length = n) (hb : ∀ r ∈ rows, ∀ j, (at0 r j).natAbs ≤ 2 ^ e) : Kn n e 0 0 rows.length (mx rows) rows := ⟨hl, hb, fun j h => absurd h (by omega), fun q h => by rw [Nat.zero_add]; exact h⟩
theorem Kn.skip {n e c k m0 : Nat} {M : Mx} {rest : List Row} (R : Kn n e c k m0 M rest) (h : ∀ r ∈ rest, at0 r c = 0) : Kn n e (c + 1) k m0 M rest := ⟨R.len, fun r hr j => Nat.le_trans (R.bd r hr j) (Nat.pow_le_pow_right (by decide) (by show _ ≤ 2 * _ + 1; omega)), fun j hj r hr => by
  by_cases hc : j = c
  · rw [hc]; exact h r hr
  · exact R.zr j (by omega) r hr, R.rk⟩
theorem Kn.step {n e c k m0 : Nat} {M : Mx} {rest : List Row} (R : Kn n e c k m0 M rest) (hc : c < n) {p : Nat} (hp : p < rest.length) (h0 : at0 rest[p] c ≠ 0) : Kn n e (c + 1) (k + 1) m0 M ((rest.eraseIdx p).map fun r => cl2 rest[p] r c) := by
  have lp := R.len _ (List.getElem_mem hp)
  refine ⟨fun r hr => ?_, fun r hr j => ?_, fun j hj r hr => ?_, fun q h => ?_⟩
  · obtain ⟨r0, h1, rfl⟩ := List.mem_map.mp hr
    exact cl2_len (R.len r0 (List.mem_of_mem_eraseIdx h1)) lp
  · obtain ⟨r0, h1, rfl⟩ := List.mem_map.mp hr
    have hr0 := List.mem_of_mem_eraseIdx h1
    rw [cl2_at (R.len r0 hr0) lp]
    have a1 := Nat.mul_le_mul (R.bd _ (List.getElem_mem hp) c) (R.bd r0 hr0 j)
    have a2 := Nat.mul_le_mul (R.bd r0 hr0 c) (R.bd _ (List.getElem_mem hp) j)
    rw [← Int.natAbs_mul, ← Nat.pow_add] at a1 a2
    have e1 : 2 ^ bnd e (c + 1) = 2 * 2 ^ (bnd e c + bnd e c) := by
      show 2 ^ (2 * bnd e c + 1) = _
      rw [Nat.pow_succ, Nat.two_mul, Nat.mul_comm]
    rw [e1]
    have := Int.natAbs_sub_le (at0 rest[p] c * at0 r0 j) (at0 r0 c * at0 rest[p] j)
    omega
  · obtain ⟨r0, h1, rfl⟩ := List.mem_map.mp hr
    have hr0 := List.mem_of_mem_eraseIdx h1
    rw [cl2_at (R.len r0 hr0) lp]
    by_cases hjc : j = c
    · subst hjc; grind
    · rw [R.zr j (by omega) r0 hr0, R.zr j (by omega) _ (List.getElem_mem hp)]; omega
  · have hl : ((rest.eraseIdx p).map fun r => cl2 rest[p] r c).length = rest.length - 1 := by rw [List.length_map, erase_len hp]
    rw [hl] at h
    have nx : ∀ i, i < rest.length - 1 → ∀ j, (1 : Int) * mx ((rest.eraseIdx p).map fun r => cl2 rest[p] r c) i j = mx rest p c * mx rest (skp p i) j - mx rest (skp p i) c * mx rest p j := fun i hi j => by
      have hl : i < (rest.eraseIdx p).length := by rw [erase_len hp]; exact hi
      have hs : skp p i < rest.length := by unfold skp; split <;> omega
      rw [mx_lt (by rw [List.length_map]; exact hl), List.getElem_map, mx_lt hp, mx_lt hs, mx_lt hs, mx_lt hp, erase_at hl hs, Int.one_mul]
      exact cl2_at (R.len _ (List.getElem_mem hs)) lp j
    have cl : Clr rest.length n (mx rest) (rest.length - 1) (mx ((rest.eraseIdx p).map fun r => cl2 rest[p] r c)) := by
      refine ⟨p, c, hp, hc, by rw [mx_lt hp]; exact h0, 1, by omega, fun i hi => ⟨skp p i, by unfold skp; split <;> omega, fun j _ => nx i hi j⟩, fun i' hi' => ?_⟩
      by_cases h : i' = p
      · exact .inl h
      · refine .inr ⟨if i' < p then i' else i' - 1, by split <;> omega, fun j _ => ?_⟩
        have e1 : skp p (if i' < p then i' else i' - 1) = i' := by
          unfold skp
          by_cases h2 : i' < p
          · rw [if_pos h2, if_pos h2]
          · rw [if_neg h2, if_neg (by omega)]; omega
        have := nx (if i' < p then i' else i' - 1) (by split <;> omega) j
        rw [e1] at this
        exact this
    have := R.rk (q + 1) (cl.rk h)
    rw [show k + 1 + q = k + (q + 1) by omega]
    exact this
theorem Kn.done {n e k m0 : Nat} {M : Mx} {rest : List Row} (R : Kn n e n k m0 M rest) : Rk m0 n M k := R.rk 0 (Rk.zero fun i j hi hj => by
  rw [mx_lt hi]
  exact R.zr j hj _ (List.getElem_mem hi))
/-! ### the inner loop -/
theorem app_at {P B : List Row} {x : Row} : (P ++ x :: B)[P.length]? = some x := by rw [List.getElem?_append_right (Nat.le_refl _), Nat.sub_self]; rfl
theorem dM_app (a b : List Row) : dM (a ++ b) = dM a ++ dM b := by unfold dM; exact List.map_append
theorem dM_get {rows : List Row} {i : Nat} {r : Row} (h : rows[i]? = some r) : atI (dM rows) (i : Int) = some (dR r) := by rw [atI_nat]; unfold dM; rw [List.getElem?_map, h]; rfl
theorem dM_set {rows : List Row} {i : Nat} {r : Row} : (dM rows).set i (dR r) = dM (rows.set i r) := by unfold dM; rw [List.map_set]
def midL (P : List Row) (pv : Row) (others : List Row) (t j : Nat) : List Row := P ++ pv :: ((others.take j).map (fun r => cl2 pv r t) ++ others.drop j)
theorem mid_len {P others : List Row} {pv : Row} {t j : Nat} (hj : j ≤ others.length) : (midL P pv others t j).length = P.length + 1 + others.length := by
  unfold midL
  simp only [List.length_append, List.length_cons, List.length_map, List.length_take, List.length_drop]
  omega
theorem mid_pv {P others : List Row} {pv : Row} {t j : Nat} : (midL P pv others t j)[P.length]? = some pv := app_at
theorem mid_at {P others : List Row} {pv : Row} {t j : Nat} (hj : j < others.length) : (midL P pv others t j)[P.length + 1 + j]? = some others[j] := by
  unfold midL
  have l1 : ((others.take j).map fun r => cl2 pv r t).length = j := by rw [List.length_map, List.length_take]; omega
  rw [List.getElem?_append_right (by omega), show P.length + 1 + j - P.length = j + 1 by omega, List.getElem?_cons_succ, List.getElem?_append_right (by omega), l1, Nat.sub_self, List.getElem?_drop, Nat.add_zero, List.getElem?_eq_getElem hj]
theorem mid_set {P others : List Row} {pv : Row} {t j : Nat} (hj : j < others.length) : (midL P pv others t j).set (P.length + 1 + j) (cl2 pv others[j] t) = midL P pv others t (j + 1) := by
  unfold midL
  have l1 : ((others.take j).map fun r => cl2 pv r t).length = j := by rw [List.length_map, List.length_take]; omega
  rw [List.set_append_right _ _ (by omega), show P.length + 1 + j - P.length = j + 1 by omega, List.set_cons_succ, List.set_append_right _ _ (by omega), l1, Nat.sub_self, List.drop_eq_getElem_cons hj, List.set_cons_zero]
  rw [List.take_succ_eq_append_getElem hj, List.map_append, List.append_assoc]
  rfl
theorem cnt_inner {P others : List Row} {pv : Row} {t j n B : Nat} (hj : j < others.length) (hB : B ≤ 200000) (hn : n ≤ 1000) (ht : t < n) (hlo : ∀ r ∈ others, r.length = n) (hlp : pv.length = n) (hbo : ∀ r ∈ others, ∀ i, (at0 r i).natAbs ≤ 2 ^ B) (hbp : ∀ i, (at0 pv i).natAbs ≤ 2 ^ B) (hs : P.length + others.length ≤ 1000) (a o5 o6 o7 o8 : Option T) :
    stepF (gN 6) b__law_count_2 (.int ((P.length : Int) + 1 + (j : Int))) [a, some (.l (dM (midL P pv others t j))), some (.d (.int (P.length : Int))), none, some (.d (.int (t : Int))), o5, o6, o7, o8, none, none] = .ok .nx [a, some (.l (dM (midL P pv others t (j + 1)))), some (.d (.int (P.length : Int))), none, some (.d (.int (t : Int))), o5, some (.d (.int ((P.length : Int) + 1 + (j : Int)))), some (.d (.int (at0 pv t))), some (.d (.int (at0 others[j] t))), none, none] := by
  have ho := List.getElem_mem hj
  have ek : ((P.length : Int) + 1 + (j : Int)) = ((P.length + 1 + j : Nat) : Int) := by omega
  have g1 := dM_get (mid_pv (P := P) (others := others) (pv := pv) (t := t) (j := j))
  have g2 := dM_get (mid_at (P := P) (pv := pv) (t := t) hj)
  have a1 : atI (pv.map D.int) (t : Int) = some (.int (at0 pv t)) := at0_of (by omega)
  have a2 : atI ((others[j]).map D.int) (t : Int) = some (.int (at0 others[j] t)) := at0_of (by rw [hlo _ ho]; exact ht)
  have fx : ∀ x ∈ others[j], Fits x := fun x hx => by
    obtain ⟨i, hi, rfl⟩ := List.getElem_of_mem hx
    rw [← at0_lt hi]; exact Nat.le_trans (hbo _ ho i) (Nat.pow_le_pow_right (by decide) (by omega))
  have fy : ∀ x ∈ pv, Fits x := fun x hx => by
    obtain ⟨i, hi, rfl⟩ := List.getElem_of_mem hx
    rw [← at0_lt hi]; exact Nat.le_trans (hbp i) (Nat.pow_le_pow_right (by decide) (by omega))
  have fa : Fits (at0 pv t) := Nat.le_trans (hbp t) (Nat.pow_le_pow_right (by decide) (by omega))
  have fb : Fits (at0 others[j] t) := Nat.le_trans (hbo _ ho t) (Nat.pow_le_pow_right (by decide) (by omega))
  have cs : ∀ L c o5, compGo [9, 10] (gTup' 2 (gCons' (gN 9) (gCons' (gN 10) gNil'))) mYes (mED (mOp2 bSub (mEO (mOp2 bMul (mPk 7) (mPk 9))) (mEO (mOp2 bMul (mPk 8) (mPk 10))))) (zipD ((others[j]).map D.int) (pv.map D.int)) [a, L, some (.d (.int (P.length : Int))), none, some (.d (.int (t : Int))), o5, c, some (.d (.int (at0 pv t))), some (.d (.int (at0 others[j] t))), none, none] [] = .ok ((cl2 pv others[j] t).map D.int) [a, L, some (.d (.int (P.length : Int))), none, some (.d (.int (t : Int))), o5, c, some (.d (.int (at0 pv t))), some (.d (.int (at0 others[j] t))), none, none] := fun L c o5 => by
    refine (comp_map (onPair fun x y => at0 pv t * x - at0 others[j] t * y) _ [] (fun d hd => ?_) (by
      have := zip_len2 ((others[j]).map D.int) (pv.map D.int)
      rw [List.length_map, hlo _ ho] at this
      rw [sizeLine_val]; simp only [List.length_nil]; omega)).trans (by rw [List.nil_append, fm_zip]; rfl)
    obtain ⟨x, hx, y, hy, rfl⟩ := zip_ints hd
    simp only [p_stepC, p_stepF, p_seq, p_asg, p_drop, p_ret, p_pass, p_break, p_cont, p_ifs, p_if, p_de, p_ed, p_eo, p_do, p_use, p_move, p_pk, p_c, p_op2, p_op1, p_b, p_andT, p_orT, p_notT, p_tru, p_andV, p_orV, p_notV, p_aug, p_par, p_lst, p_tup, p_upd, p_isN, p_notN, p_isi, p_sl, p_inone, p_isome, p_cb, p_call, p_callk, p_anil, p_acons, p_dnil, p_dcons, p_enil, p_econs, p_yes, p_gn, p_gnil, p_gcons, p_gtup, p_gsub, p_cres, n_crT, n_cr2, takeOps, putOps, isOwnL, n_f1, atAll, Op.at, Rs.map_ok, n_bind, n_ap1, n_ap2, n_apL, Rs.bind_exc, Rs.bind_bad, n_of, Rs.of_none, Option.bind_some, Option.bind_none, Option.join_some, Option.map_some,
  List.getElem?_cons_zero, List.getElem?_cons_succ, List.getElem?_nil, List.set_cons_zero, List.set_cons_succ, List.length_cons, List.length_nil, T.toD, bl?_d, Nat.zero_lt_succ, Nat.succ_lt_succ_iff, if_true, if_false, reduceIte, reduceCtorEq, List.map_cons, List.map_nil, List.cons_append, List.nil_append, List.replicate_succ, List.replicate_zero, Nat.reduceAdd, Nat.reduceSub, Nat.reduceLT, Nat.reduceLeDiff, Nat.reduceEqDiff, bAdd_ii, bSub_ii, bMul_small, bMod_pos, bFdiv_pos, bPow_small, Int.reduceToNat, Int.reducePow, decide_eq_true_eq, decide_true, decide_false, bLt_ii, bGe_ii, bGt_ii, bLe_ii, bEq_ii, bNe_ii, bInt_i, bLen_l, bLen_d, bLen_ro, bLen_t, bList_l, bList_d, bList_ro, bList_t, bTuple_l, bTuple_d, bTuple_t, uAppend_one, uInsert_one, uPopAt_one, outs, aHas, aNo, aOne, aOr, bIx_l, bIx_d, bIx_t, bIx_ro, bTru, atI_lit, ixN_lit, bSl_l, bSl_d, bSl_ro, isi_l, isi_d, isi_t, isi_i, isi_b, isi_s, isi_n, Rs.env_ok, fSeq_l, fSeq_d, fSeq_ro, fSeq_t, fZip_ll, fZip_ld, fZip_dl, fZip_dd, fZip_tt, fEnum_l, fEnum_d, bIsN_of, bNotN_of, isNon_i, isNon_b, isNon_s, isNon_l, isNon_t, isNon_n, Tn.any, Tn.sub, eq_self, Bool.or_self, Bool.and_self, Bool.or_false, ne_eq, not_true, not_false_eq_true, and_self, and_true, true_and, opsFree, List.all_cons, List.all_nil, bEq_bb, bEq_ss, bNe_bb, bNe_ss, Bool.and_true, Bool.not_true, Bool.not_false, Bool.false_eq_true, List.any_cons, List.any_nil, Nat.reduceBEq, Bool.or_false, Bool.or_true, Bool.false_or, Bool.true_and, Bool.false_and, wipeE, unwipeE, bMul_f (fa.mul (fx x hx)), bMul_f (fb.mul (fy y hy)), onPair]
  have li : ixN (dM (midL P pv others t j)).length ((P.length : Int) + 1 + (j : Int)) = some (P.length + 1 + j) := by
    rw [ek, ixN_nat, if_pos]
    rw [dM_len, mid_len (by omega)]; omega
  have ms := dM_set (rows := midL P pv others t j) (i := P.length + 1 + j) (r := cl2 pv others[j] t)
  rw [mid_set hj] at ms
  rw [← ek] at g2
  unfold b__law_count_2 q__law_count_0 q__law_count_1
  unfold dR at *
  simp only [p_stepC, p_stepF, p_seq, p_asg, p_drop, p_ret, p_pass, p_break, p_cont, p_ifs, p_if, p_de, p_ed, p_eo, p_do, p_use, p_move, p_pk, p_c, p_op2, p_op1, p_b, p_andT, p_orT, p_notT, p_tru, p_andV, p_orV, p_notV, p_aug, p_par, p_lst, p_tup, p_upd, p_isN, p_notN, p_isi, p_sl, p_inone, p_isome, p_cb, p_call, p_callk, p_anil, p_acons, p_dnil, p_dcons, p_enil, p_econs, p_yes, p_gn, p_gnil, p_gcons, p_gtup, p_gsub, p_cres, n_crT, n_cr2, takeOps, putOps, isOwnL, n_f1, atAll, Op.at, Rs.map_ok, n_bind, n_ap1, n_ap2, n_apL, Rs.bind_exc, Rs.bind_bad, n_of, Rs.of_none, Option.bind_some, Option.bind_none, Option.join_some, Option.map_some,
  List.getElem?_cons_zero, List.getElem?_cons_succ, List.getElem?_nil, List.set_cons_zero, List.set_cons_succ, List.length_cons, List.length_nil, T.toD, bl?_d, Nat.zero_lt_succ, Nat.succ_lt_succ_iff, if_true, if_false, reduceIte, reduceCtorEq, List.map_cons, List.map_nil, List.cons_append, List.nil_append, List.replicate_succ, List.replicate_zero, Nat.reduceAdd, Nat.reduceSub, Nat.reduceLT, Nat.reduceLeDiff, Nat.reduceEqDiff, bAdd_ii, bSub_ii, bMul_small, bMod_pos, bFdiv_pos, bPow_small, Int.reduceToNat, Int.reducePow, decide_eq_true_eq, decide_true, decide_false, bLt_ii, bGe_ii, bGt_ii, bLe_ii, bEq_ii, bNe_ii, bInt_i, bLen_l, bLen_d, bLen_ro, bLen_t, bList_l, bList_d, bList_ro, bList_t, bTuple_l, bTuple_d, bTuple_t, uAppend_one, uInsert_one, uPopAt_one, outs, aHas, aNo, aOne, aOr, bIx_l, bIx_d, bIx_t, bIx_ro, bTru, atI_lit, ixN_lit, bSl_l, bSl_d, bSl_ro, isi_l, isi_d, isi_t, isi_i, isi_b, isi_s, isi_n, Rs.env_ok, fSeq_l, fSeq_d, fSeq_ro, fSeq_t, fZip_ll, fZip_ld, fZip_dl, fZip_dd, fZip_tt, fEnum_l, fEnum_d, bIsN_of, bNotN_of, isNon_i, isNon_b, isNon_s, isNon_l, isNon_t, isNon_n, Tn.any, Tn.sub, eq_self, Bool.or_self, Bool.and_self, Bool.or_false, ne_eq, not_true, not_false_eq_true, and_self, and_true, true_and, opsFree, List.all_cons, List.all_nil, bEq_bb, bEq_ss, bNe_bb, bNe_ss, Bool.and_true, Bool.not_true, Bool.not_false, Bool.false_eq_true, List.any_cons, List.any_nil, Nat.reduceBEq, Bool.or_false, Bool.or_true, Bool.false_or, Bool.true_and, Bool.false_and, wipeE, unwipeE, g1, g2, a1, a2, p_comp, cs, li, ms]
end NS
namespace NS
open PySem L2 LA
theorem fR2_nat {a b : Nat} (h : a ≤ b) (hb : b ≤ 1000) : fR2 [.d (.int (a : Int)), .d (.int (b : Int))] = some (rangeD (a : Int) (b - a)) := by
  rw [fR2_i, if_pos (by omega)]
  congr 2; omega
def placesAt (rest : List Row) (k off : Nat) : List D := (List.range rest.length).filterMap fun i => if at0 (rest.getD i []) k = 0 then none else some (.int ((off : Int) + (i : Int)))
theorem placesAt_nil {rest : List Row} {k off : Nat} (h : placesAt rest k off = []) : ∀ r ∈ rest, at0 r k = 0 := fun r hr => by
  obtain ⟨i, hi, rfl⟩ := List.getElem_of_mem hr
  have := List.filterMap_eq_nil_iff.mp h i (List.mem_range.mpr hi)
  rw [List.getD_eq_getElem?_getD, List.getElem?_eq_getElem hi] at this
  by_cases z : at0 rest[i] k = 0
  · exact z
  · simp [z] at this
theorem placesAt_cons {rest : List Row} {k off : Nat} {d : D} {tl : List D} (h : placesAt rest k off = d :: tl) : ∃ p, ∃ hp : p < rest.length, d = .int ((off : Int) + (p : Int)) ∧ at0 rest[p] k ≠ 0 := by
  have hd : d ∈ placesAt rest k off := by rw [h]; exact List.mem_cons_self
  obtain ⟨i, hi, e⟩ := List.mem_filterMap.mp hd
  have hi := List.mem_range.mp hi
  rw [List.getD_eq_getElem?_getD, List.getElem?_eq_getElem hi] at e
  by_cases z : at0 rest[i] k = 0
  · simp [z] at e
  · simp [z] at e
    exact ⟨i, hi, e.symm, z⟩
theorem placesAt_q (rest : List Row) (k off : Nat) : ∀ x ∈ placesAt rest k off, Dq 0 x := fun x hx => by
  obtain ⟨i, _, e⟩ := List.mem_filterMap.mp hx
  split at e
  · cases e
  · cases e; exact .int 0 _
theorem cnt_at {P rest : List Row} {n t : Nat} (hl : ∀ r ∈ rest, r.length = n) (ht : t < n) (hs : P.length + rest.length ≤ 1000) (a o5 : Option T) (d6 : Option D) (o7 o8 : Option T) :
    q__law_count_3 [a, some (.l (dM (P ++ rest))), some (.d (.int (P.length : Int))), none, some (.d (.int (t : Int))), o5, d6.map T.d, o7, o8, none, none] = .ok .nx [a, some (.l (dM (P ++ rest))), some (.d (.int (P.length : Int))), none, some (.d (.int (t : Int))), some (.d (.lst (placesAt rest t P.length))), d6.map T.d, o7, o8, none, none] := by
  have c1 : compGo [6] (gN 6) (mB (mOp2 bNe (mEO (mOp2 bIx (mEO (mOp2 bIx (mPk 1) (mPk 6))) (mPk 4))) (mDO (mC (.int 0))))) (mUse 6) (rangeD (P.length : Int) (P.length + rest.length - P.length)) [a, some (.l (dM (P ++ rest))), some (.d (.int (P.length : Int))), none, some (.d (.int (t : Int))), o5, none, o7, o8, none, none] [] = .ok (placesAt rest t P.length) [a, some (.l (dM (P ++ rest))), some (.d (.int (P.length : Int))), none, some (.d (.int (t : Int))), o5, none, o7, o8, none, none] := by
    unfold rangeD
    rw [Nat.add_sub_cancel_left]
    refine (comp_mapW (fun i : Nat => D.int ((P.length : Int) + (i : Int))) (fun i => if at0 (rest.getD i []) t = 0 then none else some (.int ((P.length : Int) + (i : Int)))) (List.range rest.length) [] (fun i hi => ?_) (by rw [List.length_range, sizeLine_val]; simp only [List.length_nil]; omega)).trans (by rw [List.nil_append]; rfl)
    have hi := List.mem_range.mp hi
    have hr : (rest.getD i []).length = n := by rw [List.getD_eq_getElem?_getD, List.getElem?_eq_getElem hi]; exact hl _ (List.getElem_mem hi)
    have q := at0_of (r := rest.getD i []) (c := t) (by omega)
    have g : atI (dM (P ++ rest)) ((P.length : Int) + (i : Int)) = some (dR (rest.getD i [])) := by
      rw [show ((P.length : Int) + (i : Int)) = ((P.length + i : Nat) : Int) by omega]
      refine dM_get ?_
      rw [List.getElem?_append_right (by omega), Nat.add_sub_cancel_left, List.getD_eq_getElem?_getD, List.getElem?_eq_getElem hi]; rfl
    generalize rest.getD i [] = r at *
    unfold dR at *
    by_cases z : at0 r t = 0
    · simp only [p_stepC, p_stepF, p_seq, p_asg, p_drop, p_ret, p_pass, p_break, p_cont, p_ifs, p_if, p_de, p_ed, p_eo, p_do, p_use, p_move, p_pk, p_c, p_op2, p_op1, p_b, p_andT, p_orT, p_notT, p_tru, p_andV, p_orV, p_notV, p_aug, p_par, p_lst, p_tup, p_upd, p_isN, p_notN, p_isi, p_sl, p_inone, p_isome, p_cb, p_call, p_callk, p_anil, p_acons, p_dnil, p_dcons, p_enil, p_econs, p_yes, p_gn, p_gnil, p_gcons, p_gtup, p_gsub, p_cres, n_crT, n_cr2, takeOps, putOps, isOwnL, n_f1, atAll, Op.at, Rs.map_ok, n_bind, n_ap1, n_ap2, n_apL, Rs.bind_exc, Rs.bind_bad, n_of, Rs.of_none, Option.bind_some, Option.bind_none, Option.join_some, Option.map_some,
  List.getElem?_cons_zero, List.getElem?_cons_succ, List.getElem?_nil, List.set_cons_zero, List.set_cons_succ, List.length_cons, List.length_nil, T.toD, bl?_d, Nat.zero_lt_succ, Nat.succ_lt_succ_iff, if_true, if_false, reduceIte, reduceCtorEq, List.map_cons, List.map_nil, List.cons_append, List.nil_append, List.replicate_succ, List.replicate_zero, Nat.reduceAdd, Nat.reduceSub, Nat.reduceLT, Nat.reduceLeDiff, Nat.reduceEqDiff, bAdd_ii, bSub_ii, bMul_small, bMod_pos, bFdiv_pos, bPow_small, Int.reduceToNat, Int.reducePow, decide_eq_true_eq, decide_true, decide_false, bLt_ii, bGe_ii, bGt_ii, bLe_ii, bEq_ii, bNe_ii, bInt_i, bLen_l, bLen_d, bLen_ro, bLen_t, bList_l, bList_d, bList_ro, bList_t, bTuple_l, bTuple_d, bTuple_t, uAppend_one, uInsert_one, uPopAt_one, outs, aHas, aNo, aOne, aOr, bIx_l, bIx_d, bIx_t, bIx_ro, bTru, atI_lit, ixN_lit, bSl_l, bSl_d, bSl_ro, isi_l, isi_d, isi_t, isi_i, isi_b, isi_s, isi_n, Rs.env_ok, fSeq_l, fSeq_d, fSeq_ro, fSeq_t, fZip_ll, fZip_ld, fZip_dl, fZip_dd, fZip_tt, fEnum_l, fEnum_d, bIsN_of, bNotN_of, isNon_i, isNon_b, isNon_s, isNon_l, isNon_t, isNon_n, Tn.any, Tn.sub, eq_self, Bool.or_self, Bool.and_self, Bool.or_false, ne_eq, not_true, not_false_eq_true, and_self, and_true, true_and, opsFree, List.all_cons, List.all_nil, bEq_bb, bEq_ss, bNe_bb, bNe_ss, Bool.and_true, Bool.not_true, Bool.not_false, Bool.false_eq_true, List.any_cons, List.any_nil, Nat.reduceBEq, Bool.or_false, Bool.or_true, Bool.false_or, Bool.true_and, Bool.false_and, wipeE, unwipeE, g, q, z]
    · simp only [p_stepC, p_stepF, p_seq, p_asg, p_drop, p_ret, p_pass, p_break, p_cont, p_ifs, p_if, p_de, p_ed, p_eo, p_do, p_use, p_move, p_pk, p_c, p_op2, p_op1, p_b, p_andT, p_orT, p_notT, p_tru, p_andV, p_orV, p_notV, p_aug, p_par, p_lst, p_tup, p_upd, p_isN, p_notN, p_isi, p_sl, p_inone, p_isome, p_cb, p_call, p_callk, p_anil, p_acons, p_dnil, p_dcons, p_enil, p_econs, p_yes, p_gn, p_gnil, p_gcons, p_gtup, p_gsub, p_cres, n_crT, n_cr2, takeOps, putOps, isOwnL, n_f1, atAll, Op.at, Rs.map_ok, n_bind, n_ap1, n_ap2, n_apL, Rs.bind_exc, Rs.bind_bad, n_of, Rs.of_none, Option.bind_some, Option.bind_none, Option.join_some, Option.map_some,
  List.getElem?_cons_zero, List.getElem?_cons_succ, List.getElem?_nil, List.set_cons_zero, List.set_cons_succ, List.length_cons, List.length_nil, T.toD, bl?_d, Nat.zero_lt_succ, Nat.succ_lt_succ_iff, if_true, if_false, reduceIte, reduceCtorEq, List.map_cons, List.map_nil, List.cons_append, List.nil_append, List.replicate_succ, List.replicate_zero, Nat.reduceAdd, Nat.reduceSub, Nat.reduceLT, Nat.reduceLeDiff, Nat.reduceEqDiff, bAdd_ii, bSub_ii, bMul_small, bMod_pos, bFdiv_pos, bPow_small, Int.reduceToNat, Int.reducePow, decide_eq_true_eq, decide_true, decide_false, bLt_ii, bGe_ii, bGt_ii, bLe_ii, bEq_ii, bNe_ii, bInt_i, bLen_l, bLen_d, bLen_ro, bLen_t, bList_l, bList_d, bList_ro, bList_t, bTuple_l, bTuple_d, bTuple_t, uAppend_one, uInsert_one, uPopAt_one, outs, aHas, aNo, aOne, aOr, bIx_l, bIx_d, bIx_t, bIx_ro, bTru, atI_lit, ixN_lit, bSl_l, bSl_d, bSl_ro, isi_l, isi_d, isi_t, isi_i, isi_b, isi_s, isi_n, Rs.env_ok, fSeq_l, fSeq_d, fSeq_ro, fSeq_t, fZip_ll, fZip_ld, fZip_dl, fZip_dd, fZip_tt, fEnum_l, fEnum_d, bIsN_of, bNotN_of, isNon_i, isNon_b, isNon_s, isNon_l, isNon_t, isNon_n, Tn.any, Tn.sub, eq_self, Bool.or_self, Bool.and_self, Bool.or_false, ne_eq, not_true, not_false_eq_true, and_self, and_true, true_and, opsFree, List.all_cons, List.all_nil, bEq_bb, bEq_ss, bNe_bb, bNe_ss, Bool.and_true, Bool.not_true, Bool.not_false, Bool.false_eq_true, List.any_cons, List.any_nil, Nat.reduceBEq, Bool.or_false, Bool.or_true, Bool.false_or, Bool.true_and, Bool.false_and, wipeE, unwipeE, g, q, z]
  have h1 : (aCons (mPk 2) (aCons (mEO (mCB (f1 bLen) (aCons (mPk 1) aNil))) aNil)) [a, some (.l (dM (P ++ rest))), some (.d (.int (P.length : Int))), none, some (.d (.int (t : Int))), o5, d6.map T.d, o7, o8, none, none] = .ok [.pk 2, .tmp (.d (.int ((P.length + rest.length : Nat) : Int)))] [a, some (.l (dM (P ++ rest))), some (.d (.int (P.length : Int))), none, some (.d (.int (t : Int))), o5, d6.map T.d, o7, o8, none, none] := by
    simp only [p_stepC, p_stepF, p_seq, p_asg, p_drop, p_ret, p_pass, p_break, p_cont, p_ifs, p_if, p_de, p_ed, p_eo, p_do, p_use, p_move, p_pk, p_c, p_op2, p_op1, p_b, p_andT, p_orT, p_notT, p_tru, p_andV, p_orV, p_notV, p_aug, p_par, p_lst, p_tup, p_upd, p_isN, p_notN, p_isi, p_sl, p_inone, p_isome, p_cb, p_call, p_callk, p_anil, p_acons, p_dnil, p_dcons, p_enil, p_econs, p_yes, p_gn, p_gnil, p_gcons, p_gtup, p_gsub, p_cres, n_crT, n_cr2, takeOps, putOps, isOwnL, n_f1, atAll, Op.at, Rs.map_ok, n_bind, n_ap1, n_ap2, n_apL, Rs.bind_exc, Rs.bind_bad, n_of, Rs.of_none, Option.bind_some, Option.bind_none, Option.join_some, Option.map_some,
  List.getElem?_cons_zero, List.getElem?_cons_succ, List.getElem?_nil, List.set_cons_zero, List.set_cons_succ, List.length_cons, List.length_nil, T.toD, bl?_d, Nat.zero_lt_succ, Nat.succ_lt_succ_iff, if_true, if_false, reduceIte, reduceCtorEq, List.map_cons, List.map_nil, List.cons_append, List.nil_append, List.replicate_succ, List.replicate_zero, Nat.reduceAdd, Nat.reduceSub, Nat.reduceLT, Nat.reduceLeDiff, Nat.reduceEqDiff, bAdd_ii, bSub_ii, bMul_small, bMod_pos, bFdiv_pos, bPow_small, Int.reduceToNat, Int.reducePow, decide_eq_true_eq, decide_true, decide_false, bLt_ii, bGe_ii, bGt_ii, bLe_ii, bEq_ii, bNe_ii, bInt_i, bLen_l, bLen_d, bLen_ro, bLen_t, bList_l, bList_d, bList_ro, bList_t, bTuple_l, bTuple_d, bTuple_t, uAppend_one, uInsert_one, uPopAt_one, outs, aHas, aNo, aOne, aOr, bIx_l, bIx_d, bIx_t, bIx_ro, bTru, atI_lit, ixN_lit, bSl_l, bSl_d, bSl_ro, isi_l, isi_d, isi_t, isi_i, isi_b, isi_s, isi_n, Rs.env_ok, fSeq_l, fSeq_d, fSeq_ro, fSeq_t, fZip_ll, fZip_ld, fZip_dl, fZip_dd, fZip_tt, fEnum_l, fEnum_d, bIsN_of, bNotN_of, isNon_i, isNon_b, isNon_s, isNon_l, isNon_t, isNon_n, Tn.any, Tn.sub, eq_self, Bool.or_self, Bool.and_self, Bool.or_false, ne_eq, not_true, not_false_eq_true, and_self, and_true, true_and, opsFree, List.all_cons, List.all_nil, bEq_bb, bEq_ss, bNe_bb, bNe_ss, Bool.and_true, Bool.not_true, Bool.not_false, Bool.false_eq_true, List.any_cons, List.any_nil, Nat.reduceBEq, Bool.or_false, Bool.or_true, Bool.false_or, Bool.true_and, Bool.false_and, wipeE, unwipeE, dM_len, List.length_append]
  have c2 := comp_at (vs := [6]) (f := fR2) h1 rfl (fR2_nat (a := P.length) (b := P.length + rest.length) (by omega) hs) c1
  unfold q__law_count_3
  rw [p_asg]
  dsimp only
  rw [p_de, p_ed, c2]
  cases d6 <;> rfl
theorem mid_zero {P others : List Row} {pv : Row} {t : Nat} : midL P pv others t 0 = P ++ pv :: others := by unfold midL; simp
theorem mid_all {P others : List Row} {pv : Row} {t : Nat} : midL P pv others t others.length = (P ++ [pv]) ++ others.map (fun r => cl2 pv r t) := by unfold midL; simp
theorem dM_erase (rows : List Row) (p : Nat) : (dM rows).eraseIdx p = dM (rows.eraseIdx p) := by unfold dM; exact map_erase _ _ _
theorem dM_ins {P others : List Row} {pv : Row} : (dM (P ++ others)).take P.length ++ [dR pv] ++ (dM (P ++ others)).drop P.length = dM (P ++ pv :: others) := by
  have l : (dM P).length = P.length := dM_len P
  rw [dM_app, dM_app, ← l, List.take_left, List.drop_left, List.append_assoc]
  rfl
theorem cnt_body {P rest : List Row} {n e c m0 : Nat} {M : Mx} (R : Kn n e c P.length m0 M rest) (he : e ≤ 1000) (hn : n ≤ 7) (hc : c < n) (hs : P.length + rest.length ≤ 100) (a o4 o5 : Option T) (d6 : Option D) (o7 o8 : Option T) :
    ∃ P' rest', ∃ d6' : Option D, ∃ o5' o7' o8', stepF (gN 4) b__law_count_5 (.int (c : Int)) [a, some (.l (dM (P ++ rest))), some (.d (.int (P.length : Int))), none, o4, o5, d6.map T.d, o7, o8, none, none] = .ok .nx [a, some (.l (dM (P' ++ rest'))), some (.d (.int ((P' : List Row).length : Int))), none, some (.d (.int (c : Int))), o5', d6'.map T.d, o7', o8', none, none] ∧ Kn n e (c + 1) P'.length m0 M rest' ∧ P'.length + rest'.length = P.length + rest.length := by
  have ca := cnt_at (P := P) R.len hc (by omega) a o5 d6 o7 o8
  have st : stepF (gN 4) b__law_count_5 (.int (c : Int)) [a, some (.l (dM (P ++ rest))), some (.d (.int (P.length : Int))), none, o4, o5, d6.map T.d, o7, o8, none, none] = q__law_count_4 [a, some (.l (dM (P ++ rest))), some (.d (.int (P.length : Int))), none, some (.d (.int (c : Int))), some (.d (.lst (placesAt rest c P.length))), d6.map T.d, o7, o8, none, none] := by
    have g4 : gN 4 (.d (.int (c : Int))) [a, some (.l (dM (P ++ rest))), some (.d (.int (P.length : Int))), none, o4, o5, d6.map T.d, o7, o8, none, none] = .ok () [a, some (.l (dM (P ++ rest))), some (.d (.int (P.length : Int))), none, some (.d (.int (c : Int))), o5, d6.map T.d, o7, o8, none, none] := by simp only [p_stepC, p_stepF, p_seq, p_asg, p_drop, p_ret, p_pass, p_break, p_cont, p_ifs, p_if, p_de, p_ed, p_eo, p_do, p_use, p_move, p_pk, p_c, p_op2, p_op1, p_b, p_andT, p_orT, p_notT, p_tru, p_andV, p_orV, p_notV, p_aug, p_par, p_lst, p_tup, p_upd, p_isN, p_notN, p_isi, p_sl, p_inone, p_isome, p_cb, p_call, p_callk, p_anil, p_acons, p_dnil, p_dcons, p_enil, p_econs, p_yes, p_gn, p_gnil, p_gcons, p_gtup, p_gsub, p_cres, n_crT, n_cr2, takeOps, putOps, isOwnL, n_f1, atAll, Op.at, Rs.map_ok, n_bind, n_ap1, n_ap2, n_apL, Rs.bind_exc, Rs.bind_bad, n_of, Rs.of_none, Option.bind_some, Option.bind_none, Option.join_some, Option.map_some,
  List.getElem?_cons_zero, List.getElem?_cons_succ, List.getElem?_nil, List.set_cons_zero, List.set_cons_succ, List.length_cons, List.length_nil, T.toD, bl?_d, Nat.zero_lt_succ, Nat.succ_lt_succ_iff, if_true, if_false, reduceIte, reduceCtorEq, List.map_cons, List.map_nil, List.cons_append, List.nil_append, List.replicate_succ, List.replicate_zero, Nat.reduceAdd, Nat.reduceSub, Nat.reduceLT, Nat.reduceLeDiff, Nat.reduceEqDiff, bAdd_ii, bSub_ii, bMul_small, bMod_pos, bFdiv_pos, bPow_small, Int.reduceToNat, Int.reducePow, decide_eq_true_eq, decide_true, decide_false, bLt_ii, bGe_ii, bGt_ii, bLe_ii, bEq_ii, bNe_ii, bInt_i, bLen_l, bLen_d, bLen_ro, bLen_t, bList_l, bList_d, bList_ro, bList_t, bTuple_l, bTuple_d, bTuple_t, uAppend_one, uInsert_one, uPopAt_one, outs, aHas, aNo, aOne, aOr, bIx_l, bIx_d, bIx_t, bIx_ro, bTru, atI_lit, ixN_lit, bSl_l, bSl_d, bSl_ro, isi_l, isi_d, isi_t, isi_i, isi_b, isi_s, isi_n, Rs.env_ok, fSeq_l, fSeq_d, fSeq_ro, fSeq_t, fZip_ll, fZip_ld, fZip_dl, fZip_dd, fZip_tt, fEnum_l, fEnum_d, bIsN_of, bNotN_of, isNon_i, isNon_b, isNon_s, isNon_l, isNon_t, isNon_n, Tn.any, Tn.sub, eq_self, Bool.or_self, Bool.and_self, Bool.or_false, ne_eq, not_true, not_false_eq_true, and_self, and_true, true_and, opsFree, List.all_cons, List.all_nil, bEq_bb, bEq_ss, bNe_bb, bNe_ss, Bool.and_true, Bool.not_true, Bool.not_false, Bool.false_eq_true, List.any_cons, List.any_nil, Nat.reduceBEq, Bool.or_false, Bool.or_true, Bool.false_or, Bool.true_and, Bool.false_and, wipeE, unwipeE]
    rw [p_stepF, g4, Rs.bind_ok]
    unfold b__law_count_5
    exact seq_nx ca
  rw [st]
  have q0 := bNe_nil_d (n := 0) (by omega) (placesAt_q rest c P.length)
  cases hp : placesAt rest c P.length with
  | nil =>
    rw [hp] at q0
    refine ⟨P, rest, d6, some (.d (.lst [])), o7, o8, ?_, R.skip (placesAt_nil hp), rfl⟩
    unfold q__law_count_4
    simp only [p_stepC, p_stepF, p_seq, p_asg, p_drop, p_ret, p_pass, p_break, p_cont, p_ifs, p_if, p_de, p_ed, p_eo, p_do, p_use, p_move, p_pk, p_c, p_op2, p_op1, p_b, p_andT, p_orT, p_notT, p_tru, p_andV, p_orV, p_notV, p_aug, p_par, p_lst, p_tup, p_upd, p_isN, p_notN, p_isi, p_sl, p_inone, p_isome, p_cb, p_call, p_callk, p_anil, p_acons, p_dnil, p_dcons, p_enil, p_econs, p_yes, p_gn, p_gnil, p_gcons, p_gtup, p_gsub, p_cres, n_crT, n_cr2, takeOps, putOps, isOwnL, n_f1, atAll, Op.at, Rs.map_ok, n_bind, n_ap1, n_ap2, n_apL, Rs.bind_exc, Rs.bind_bad, n_of, Rs.of_none, Option.bind_some, Option.bind_none, Option.join_some, Option.map_some,
  List.getElem?_cons_zero, List.getElem?_cons_succ, List.getElem?_nil, List.set_cons_zero, List.set_cons_succ, List.length_cons, List.length_nil, T.toD, bl?_d, Nat.zero_lt_succ, Nat.succ_lt_succ_iff, if_true, if_false, reduceIte, reduceCtorEq, List.map_cons, List.map_nil, List.cons_append, List.nil_append, List.replicate_succ, List.replicate_zero, Nat.reduceAdd, Nat.reduceSub, Nat.reduceLT, Nat.reduceLeDiff, Nat.reduceEqDiff, bAdd_ii, bSub_ii, bMul_small, bMod_pos, bFdiv_pos, bPow_small, Int.reduceToNat, Int.reducePow, decide_eq_true_eq, decide_true, decide_false, bLt_ii, bGe_ii, bGt_ii, bLe_ii, bEq_ii, bNe_ii, bInt_i, bLen_l, bLen_d, bLen_ro, bLen_t, bList_l, bList_d, bList_ro, bList_t, bTuple_l, bTuple_d, bTuple_t, uAppend_one, uInsert_one, uPopAt_one, outs, aHas, aNo, aOne, aOr, bIx_l, bIx_d, bIx_t, bIx_ro, bTru, atI_lit, ixN_lit, bSl_l, bSl_d, bSl_ro, isi_l, isi_d, isi_t, isi_i, isi_b, isi_s, isi_n, Rs.env_ok, fSeq_l, fSeq_d, fSeq_ro, fSeq_t, fZip_ll, fZip_ld, fZip_dl, fZip_dd, fZip_tt, fEnum_l, fEnum_d, bIsN_of, bNotN_of, isNon_i, isNon_b, isNon_s, isNon_l, isNon_t, isNon_n, Tn.any, Tn.sub, eq_self, Bool.or_self, Bool.and_self, Bool.or_false, ne_eq, not_true, not_false_eq_true, and_self, and_true, true_and, opsFree, List.all_cons, List.all_nil, bEq_bb, bEq_ss, bNe_bb, bNe_ss, Bool.and_true, Bool.not_true, Bool.not_false, Bool.false_eq_true, List.any_cons, List.any_nil, Nat.reduceBEq, Bool.or_false, Bool.or_true, Bool.false_or, Bool.true_and, Bool.false_and, wipeE, unwipeE, q0, List.isEmpty_nil, sizeLine_val]
  | cons d tl =>
    obtain ⟨p, hpl, rfl, h0⟩ := placesAt_cons hp
    rw [hp] at q0
    have ek : ((P.length : Int) + (p : Int)) = ((P.length + p : Nat) : Int) := by omega
    have u1 : uPopAt (dM (P ++ rest)) [.int ((P.length : Int) + (p : Int))] = some (dM (P ++ rest.eraseIdx p), dR rest[p]) := by
      have g : (dM (P ++ rest))[P.length + p]? = some (dR rest[p]) := by
        unfold dM
        rw [List.getElem?_map, List.getElem?_append_right (by omega), Nat.add_sub_cancel_left, List.getElem?_eq_getElem hpl]; rfl
      rw [uPopAt_one, if_pos (by rw [dM_len, List.length_append, sizeLine_val]; omega), ek, ixN_nat, if_pos (by rw [dM_len, List.length_append]; omega)]
      show ((dM (P ++ rest))[P.length + p]?).bind _ = _
      rw [g]
      show some ((dM (P ++ rest)).eraseIdx (P.length + p), dR rest[p]) = _
      rw [dM_erase, List.eraseIdx_append_of_length_le (by omega), Nat.add_sub_cancel_left]
    have u2 : uInsert (dM (P ++ rest.eraseIdx p)) [.int (P.length : Int), dR rest[p]] = some (dM (midL P rest[p] (rest.eraseIdx p) c 0), .non) := by
      rw [uInsert_one, if_pos (by rw [dM_len, List.length_append, sizeLine_val, erase_len hpl]; omega), Int.toNat_natCast, dM_ins, mid_zero]
    have el : (rest.eraseIdx p).length = rest.length - 1 := erase_len hpl
    have hb := bnd_le he (c := c) (by omega)
    have s1 : (mDrop (mUpd 1 uInsert (dCons (mUse 2) (dCons (mED (mUpd 1 uPopAt (dCons (mED (mOp2 bIx (mPk 5) (mDO (mC (.int 0))))) dNil))) dNil)))) [a, some (.l (dM (P ++ rest))), some (.d (.int (P.length : Int))), none, some (.d (.int (c : Int))), some (.d (.lst (.int ((P.length : Int) + (p : Int)) :: tl))), d6.map T.d, o7, o8, none, none] = .ok .nx [a, some (.l (dM (midL P rest[p] (rest.eraseIdx p) c 0))), some (.d (.int (P.length : Int))), none, some (.d (.int (c : Int))), some (.d (.lst (.int ((P.length : Int) + (p : Int)) :: tl))), d6.map T.d, o7, o8, none, none] := by
      simp only [p_drop, p_upd, isOwnL, List.getElem?_cons_succ, List.getElem?_cons_zero, Option.join_some, if_true, p_dcons, p_use, n_bind, n_ap2, n_of, p_ed, p_op2, p_pk, p_do, p_c, Op.at, Option.bind_some, bIx_d, atI_lit, Option.map_some, Rs.of_some, T.toD, p_dnil, u1, u2, List.set_cons_succ, List.set_cons_zero]
    obtain ⟨e', h1, d6', o7', o8', rfl⟩ := for_inv (g := gN 6) (b := b__law_count_2) (fun i env => ∃ (d6 : Option D) (o7 o8 : Option T), env = [a, some (.l (dM (midL P rest[p] (rest.eraseIdx p) c i))), some (.d (.int (P.length : Int))), none, some (.d (.int (c : Int))), some (.d (.lst (.int ((P.length : Int) + (p : Int)) :: tl))), d6.map T.d, o7, o8, none, none]) (rangeD ((P.length + 1 : Nat) : Int) (rest.eraseIdx p).length) 0 _ ⟨d6, o7, o8, rfl⟩ (fun j x env hx ⟨d6, o7, o8, he'⟩ => by
      subst he'
      have hj : j < (rest.eraseIdx p).length := by
        have := (List.getElem?_eq_some_iff.mp hx).1; rwa [rangeD_len] at this
      rw [rangeD_get _ _ _ hj] at hx
      cases hx
      rw [Nat.zero_add]
      have ci := cnt_inner (P := P) (others := rest.eraseIdx p) (pv := rest[p]) (t := c) (j := j) (n := n) (B := bnd e c) hj hb (by omega) hc (fun r hr => R.len r (List.mem_of_mem_eraseIdx hr)) (R.len _ (List.getElem_mem hpl)) (fun r hr => R.bd r (List.mem_of_mem_eraseIdx hr)) (R.bd _ (List.getElem_mem hpl)) (by omega) a (some (.d (.lst (.int ((P.length : Int) + (p : Int)) :: tl)))) (d6.map T.d) o7 o8
      rw [show (((P.length + 1 : Nat) : Int) + (j : Int)) = ((P.length : Int) + 1 + (j : Int)) by omega]
      exact ⟨_, ci, some _, _, _, rfl⟩)
    rw [Nat.zero_add, rangeD_len, mid_all] at h1
    have h2 : (aCons (mEO (mOp2 bAdd (mPk 2) (mDO (mC (.int 1))))) (aCons (mEO (mCB (f1 bLen) (aCons (mPk 1) aNil))) aNil)) [a, some (.l (dM (midL P rest[p] (rest.eraseIdx p) c 0))), some (.d (.int (P.length : Int))), none, some (.d (.int (c : Int))), some (.d (.lst (.int ((P.length : Int) + (p : Int)) :: tl))), d6.map T.d, o7, o8, none, none] = .ok [.tmp (.d (.int ((P.length + 1 : Nat) : Int))), .tmp (.d (.int ((P.length + 1 + (rest.eraseIdx p).length : Nat) : Int)))] [a, some (.l (dM (midL P rest[p] (rest.eraseIdx p) c 0))), some (.d (.int (P.length : Int))), none, some (.d (.int (c : Int))), some (.d (.lst (.int ((P.length : Int) + (p : Int)) :: tl))), d6.map T.d, o7, o8, none, none] := by
      simp only [p_stepC, p_stepF, p_seq, p_asg, p_drop, p_ret, p_pass, p_break, p_cont, p_ifs, p_if, p_de, p_ed, p_eo, p_do, p_use, p_move, p_pk, p_c, p_op2, p_op1, p_b, p_andT, p_orT, p_notT, p_tru, p_andV, p_orV, p_notV, p_aug, p_par, p_lst, p_tup, p_upd, p_isN, p_notN, p_isi, p_sl, p_inone, p_isome, p_cb, p_call, p_callk, p_anil, p_acons, p_dnil, p_dcons, p_enil, p_econs, p_yes, p_gn, p_gnil, p_gcons, p_gtup, p_gsub, p_cres, n_crT, n_cr2, takeOps, putOps, isOwnL, n_f1, atAll, Op.at, Rs.map_ok, n_bind, n_ap1, n_ap2, n_apL, Rs.bind_exc, Rs.bind_bad, n_of, Rs.of_none, Option.bind_some, Option.bind_none, Option.join_some, Option.map_some,
  List.getElem?_cons_zero, List.getElem?_cons_succ, List.getElem?_nil, List.set_cons_zero, List.set_cons_succ, List.length_cons, List.length_nil, T.toD, bl?_d, Nat.zero_lt_succ, Nat.succ_lt_succ_iff, if_true, if_false, reduceIte, reduceCtorEq, List.map_cons, List.map_nil, List.cons_append, List.nil_append, List.replicate_succ, List.replicate_zero, Nat.reduceAdd, Nat.reduceSub, Nat.reduceLT, Nat.reduceLeDiff, Nat.reduceEqDiff, bAdd_ii, bSub_ii, bMul_small, bMod_pos, bFdiv_pos, bPow_small, Int.reduceToNat, Int.reducePow, decide_eq_true_eq, decide_true, decide_false, bLt_ii, bGe_ii, bGt_ii, bLe_ii, bEq_ii, bNe_ii, bInt_i, bLen_l, bLen_d, bLen_ro, bLen_t, bList_l, bList_d, bList_ro, bList_t, bTuple_l, bTuple_d, bTuple_t, uAppend_one, uInsert_one, uPopAt_one, outs, aHas, aNo, aOne, aOr, bIx_l, bIx_d, bIx_t, bIx_ro, bTru, atI_lit, ixN_lit, bSl_l, bSl_d, bSl_ro, isi_l, isi_d, isi_t, isi_i, isi_b, isi_s, isi_n, Rs.env_ok, fSeq_l, fSeq_d, fSeq_ro, fSeq_t, fZip_ll, fZip_ld, fZip_dl, fZip_dd, fZip_tt, fEnum_l, fEnum_d, bIsN_of, bNotN_of, isNon_i, isNon_b, isNon_s, isNon_l, isNon_t, isNon_n, Tn.any, Tn.sub, eq_self, Bool.or_self, Bool.and_self, Bool.or_false, ne_eq, not_true, not_false_eq_true, and_self, and_true, true_and, opsFree, List.all_cons, List.all_nil, bEq_bb, bEq_ss, bNe_bb, bNe_ss, Bool.and_true, Bool.not_true, Bool.not_false, Bool.false_eq_true, List.any_cons, List.any_nil, Nat.reduceBEq, Bool.or_false, Bool.or_true, Bool.false_or, Bool.true_and, Bool.false_and, wipeE, unwipeE, dM_len, mid_len (Nat.zero_le _), Int.natCast_add, Int.cast_ofNat_Int]
    have f2 := fR2_nat (a := P.length + 1) (b := P.length + 1 + (rest.eraseIdx p).length) (by omega) (by omega)
    rw [Nat.add_sub_cancel_left] at f2
    have h3 := for_at (A := (aOr (aOne 6) (aOr (aOr (aOne 7) (aOr (aOne 8) aNo)) aNo))) h2 rfl f2 rfl h1
    refine ⟨P ++ [rest[p]], (rest.eraseIdx p).map fun r => cl2 rest[p] r c, d6', some (.d (.lst (.int ((P.length : Int) + (p : Int)) :: tl))), o7', o8', ?_, by rw [List.length_append]; exact R.step hc hpl h0, by rw [List.length_append, List.length_map, el]; simp only [List.length_cons, List.length_nil]; omega⟩
    have s4 : (mAsg (mDE (mED (mOp2 bAdd (mPk 2) (mDO (mC (.int 1)))))) (gN 2)) [a, some (.l (dM ((P ++ [rest[p]]) ++ (rest.eraseIdx p).map fun r => cl2 rest[p] r c))), some (.d (.int (P.length : Int))), none, some (.d (.int (c : Int))), some (.d (.lst (.int ((P.length : Int) + (p : Int)) :: tl))), d6'.map T.d, o7', o8', none, none] = .ok .nx [a, some (.l (dM ((P ++ [rest[p]]) ++ (rest.eraseIdx p).map fun r => cl2 rest[p] r c))), some (.d (.int (((P ++ [rest[p]]).length : Nat) : Int))), none, some (.d (.int (c : Int))), some (.d (.lst (.int ((P.length : Int) + (p : Int)) :: tl))), d6'.map T.d, o7', o8', none, none] := by
      simp only [p_stepC, p_stepF, p_seq, p_asg, p_drop, p_ret, p_pass, p_break, p_cont, p_ifs, p_if, p_de, p_ed, p_eo, p_do, p_use, p_move, p_pk, p_c, p_op2, p_op1, p_b, p_andT, p_orT, p_notT, p_tru, p_andV, p_orV, p_notV, p_aug, p_par, p_lst, p_tup, p_upd, p_isN, p_notN, p_isi, p_sl, p_inone, p_isome, p_cb, p_call, p_callk, p_anil, p_acons, p_dnil, p_dcons, p_enil, p_econs, p_yes, p_gn, p_gnil, p_gcons, p_gtup, p_gsub, p_cres, n_crT, n_cr2, takeOps, putOps, isOwnL, n_f1, atAll, Op.at, Rs.map_ok, n_bind, n_ap1, n_ap2, n_apL, Rs.bind_exc, Rs.bind_bad, n_of, Rs.of_none, Option.bind_some, Option.bind_none, Option.join_some, Option.map_some,
  List.getElem?_cons_zero, List.getElem?_cons_succ, List.getElem?_nil, List.set_cons_zero, List.set_cons_succ, List.length_cons, List.length_nil, T.toD, bl?_d, Nat.zero_lt_succ, Nat.succ_lt_succ_iff, if_true, if_false, reduceIte, reduceCtorEq, List.map_cons, List.map_nil, List.cons_append, List.nil_append, List.replicate_succ, List.replicate_zero, Nat.reduceAdd, Nat.reduceSub, Nat.reduceLT, Nat.reduceLeDiff, Nat.reduceEqDiff, bAdd_ii, bSub_ii, bMul_small, bMod_pos, bFdiv_pos, bPow_small, Int.reduceToNat, Int.reducePow, decide_eq_true_eq, decide_true, decide_false, bLt_ii, bGe_ii, bGt_ii, bLe_ii, bEq_ii, bNe_ii, bInt_i, bLen_l, bLen_d, bLen_ro, bLen_t, bList_l, bList_d, bList_ro, bList_t, bTuple_l, bTuple_d, bTuple_t, uAppend_one, uInsert_one, uPopAt_one, outs, aHas, aNo, aOne, aOr, bIx_l, bIx_d, bIx_t, bIx_ro, bTru, atI_lit, ixN_lit, bSl_l, bSl_d, bSl_ro, isi_l, isi_d, isi_t, isi_i, isi_b, isi_s, isi_n, Rs.env_ok, fSeq_l, fSeq_d, fSeq_ro, fSeq_t, fZip_ll, fZip_ld, fZip_dl, fZip_dd, fZip_tt, fEnum_l, fEnum_d, bIsN_of, bNotN_of, isNon_i, isNon_b, isNon_s, isNon_l, isNon_t, isNon_n, Tn.any, Tn.sub, eq_self, Bool.or_self, Bool.and_self, Bool.or_false, ne_eq, not_true, not_false_eq_true, and_self, and_true, true_and, opsFree, List.all_cons, List.all_nil, bEq_bb, bEq_ss, bNe_bb, bNe_ss, Bool.and_true, Bool.not_true, Bool.not_false, Bool.false_eq_true, List.any_cons, List.any_nil, Nat.reduceBEq, Bool.or_false, Bool.or_true, Bool.false_or, Bool.true_and, Bool.false_and, wipeE, unwipeE, List.length_append, Int.natCast_add, Int.cast_ofNat_Int]
    unfold q__law_count_4
    rw [p_ifs]
    have tt : (mB (mOp2 bNe (mPk 5) (mEO (mLst dNil)))) [a, some (.l (dM (P ++ rest))), some (.d (.int (P.length : Int))), none, some (.d (.int (c : Int))), some (.d (.lst (.int ((P.length : Int) + (p : Int)) :: tl))), d6.map T.d, o7, o8, none, none] = .ok true [a, some (.l (dM (P ++ rest))), some (.d (.int (P.length : Int))), none, some (.d (.int (c : Int))), some (.d (.lst (.int ((P.length : Int) + (p : Int)) :: tl))), d6.map T.d, o7, o8, none, none] := by
      simp only [p_stepC, p_stepF, p_seq, p_asg, p_drop, p_ret, p_pass, p_break, p_cont, p_ifs, p_if, p_de, p_ed, p_eo, p_do, p_use, p_move, p_pk, p_c, p_op2, p_op1, p_b, p_andT, p_orT, p_notT, p_tru, p_andV, p_orV, p_notV, p_aug, p_par, p_lst, p_tup, p_upd, p_isN, p_notN, p_isi, p_sl, p_inone, p_isome, p_cb, p_call, p_callk, p_anil, p_acons, p_dnil, p_dcons, p_enil, p_econs, p_yes, p_gn, p_gnil, p_gcons, p_gtup, p_gsub, p_cres, n_crT, n_cr2, takeOps, putOps, isOwnL, n_f1, atAll, Op.at, Rs.map_ok, n_bind, n_ap1, n_ap2, n_apL, Rs.bind_exc, Rs.bind_bad, n_of, Rs.of_none, Option.bind_some, Option.bind_none, Option.join_some, Option.map_some,
  List.getElem?_cons_zero, List.getElem?_cons_succ, List.getElem?_nil, List.set_cons_zero, List.set_cons_succ, List.length_cons, List.length_nil, T.toD, bl?_d, Nat.zero_lt_succ, Nat.succ_lt_succ_iff, if_true, if_false, reduceIte, reduceCtorEq, List.map_cons, List.map_nil, List.cons_append, List.nil_append, List.replicate_succ, List.replicate_zero, Nat.reduceAdd, Nat.reduceSub, Nat.reduceLT, Nat.reduceLeDiff, Nat.reduceEqDiff, bAdd_ii, bSub_ii, bMul_small, bMod_pos, bFdiv_pos, bPow_small, Int.reduceToNat, Int.reducePow, decide_eq_true_eq, decide_true, decide_false, bLt_ii, bGe_ii, bGt_ii, bLe_ii, bEq_ii, bNe_ii, bInt_i, bLen_l, bLen_d, bLen_ro, bLen_t, bList_l, bList_d, bList_ro, bList_t, bTuple_l, bTuple_d, bTuple_t, uAppend_one, uInsert_one, uPopAt_one, outs, aHas, aNo, aOne, aOr, bIx_l, bIx_d, bIx_t, bIx_ro, bTru, atI_lit, ixN_lit, bSl_l, bSl_d, bSl_ro, isi_l, isi_d, isi_t, isi_i, isi_b, isi_s, isi_n, Rs.env_ok, fSeq_l, fSeq_d, fSeq_ro, fSeq_t, fZip_ll, fZip_ld, fZip_dl, fZip_dd, fZip_tt, fEnum_l, fEnum_d, bIsN_of, bNotN_of, isNon_i, isNon_b, isNon_s, isNon_l, isNon_t, isNon_n, Tn.any, Tn.sub, eq_self, Bool.or_self, Bool.and_self, Bool.or_false, ne_eq, not_true, not_false_eq_true, and_self, and_true, true_and, opsFree, List.all_cons, List.all_nil, bEq_bb, bEq_ss, bNe_bb, bNe_ss, Bool.and_true, Bool.not_true, Bool.not_false, Bool.false_eq_true, List.any_cons, List.any_nil, Nat.reduceBEq, Bool.or_false, Bool.or_true, Bool.false_or, Bool.true_and, Bool.false_and, wipeE, unwipeE, q0, List.isEmpty_cons, sizeLine_val]
    rw [tt, Rs.bind_ok]
    rw [if_pos rfl, seq_nx s1, seq_nx h3]
    exact s4
end NS
namespace NS
open PySem L2 LA
theorem cnt_loop {n e m0 T0 : Nat} {M : Mx} (he : e ≤ 1000) (hn : n ≤ 7) (hT : T0 ≤ 100) (a : Option T) : ∀ (m c : Nat) (P rest : List Row) (o4 o5 : Option T) (d6 : Option D) (o7 o8 : Option T), c + m = n → Kn n e c P.length m0 M rest → P.length + rest.length = T0 →
    ∃ k : Nat, ∃ p1 p4 p5 p6 p7 p8, forGo (gN 4) b__law_count_5 (intsFrom c m) [a, some (.l (dM (P ++ rest))), some (.d (.int (P.length : Int))), none, o4, o5, d6.map T.d, o7, o8, none, none] = .ok .nx [a, p1, some (.d (.int (k : Int))), none, p4, p5, p6, p7, p8, none, none] ∧ Rk m0 n M k
  | 0, c, P, rest, o4, o5, d6, o7, o8, hc, R, hl => by
    have : c = n := by omega
    subst this
    exact ⟨P.length, _, _, _, _, _, _, rfl, R.done⟩
  | m + 1, c, P, rest, o4, o5, d6, o7, o8, hc, R, hl => by
    rw [intsFrom_succ]
    obtain ⟨P', rest', d6', o5', o7', o8', h1, R', hl'⟩ := cnt_body R he hn (by omega) (by omega) a o4 o5 d6 o7 o8
    rw [for_step h1]
    exact cnt_loop he hn hT a m (c + 1) P' rest' _ o5' d6' o7' o8' (by omega) R' (by omega)
theorem count_ok {rows : List Row} {n e : Nat} (hr : ∀ r ∈ rows, r.length = n) (hn : n ≤ 7) (hlen : rows.length ≤ 20) (he : e ≤ 1000) (hb : ∀ r ∈ rows, ∀ j, (at0 r j).natAbs ≤ 2 ^ e) : ∃ k : Nat, m__law_count [.d (.lst (dM rows))] = .ok (.d (.int k)) [some (.d (.lst (dM rows)))] ∧ Rk rows.length n (mx rows) k := by
  have K := Kn.init (e := e) hr hb
  have c1 : compGo [3] (gN 3) mYes (mED (mCB (f1 bList) (aCons (mPk 3) aNil))) (dM rows) [some (.d (.lst (dM rows))), none, none, none, none, none, none, none, none, none, none] [] = .ok (dM rows) [some (.d (.lst (dM rows))), none, none, none, none, none, none, none, none, none, none] := by
    refine (comp_mapW dR (fun r => some (dR r)) rows [] (fun r hr' => ?_) (by rw [sizeLine_val]; simp only [List.length_nil]; omega)).trans (by rw [List.nil_append, filterMap_all]; rfl)
    unfold dR; simp only [p_stepC, p_stepF, p_seq, p_asg, p_drop, p_ret, p_pass, p_break, p_cont, p_ifs, p_if, p_de, p_ed, p_eo, p_do, p_use, p_move, p_pk, p_c, p_op2, p_op1, p_b, p_andT, p_orT, p_notT, p_tru, p_andV, p_orV, p_notV, p_aug, p_par, p_lst, p_tup, p_upd, p_isN, p_notN, p_isi, p_sl, p_inone, p_isome, p_cb, p_call, p_callk, p_anil, p_acons, p_dnil, p_dcons, p_enil, p_econs, p_yes, p_gn, p_gnil, p_gcons, p_gtup, p_gsub, p_cres, n_crT, n_cr2, takeOps, putOps, isOwnL, n_f1, atAll, Op.at, Rs.map_ok, n_bind, n_ap1, n_ap2, n_apL, Rs.bind_exc, Rs.bind_bad, n_of, Rs.of_none, Option.bind_some, Option.bind_none, Option.join_some, Option.map_some,
  List.getElem?_cons_zero, List.getElem?_cons_succ, List.getElem?_nil, List.set_cons_zero, List.set_cons_succ, List.length_cons, List.length_nil, T.toD, bl?_d, Nat.zero_lt_succ, Nat.succ_lt_succ_iff, if_true, if_false, reduceIte, reduceCtorEq, List.map_cons, List.map_nil, List.cons_append, List.nil_append, List.replicate_succ, List.replicate_zero, Nat.reduceAdd, Nat.reduceSub, Nat.reduceLT, Nat.reduceLeDiff, Nat.reduceEqDiff, bAdd_ii, bSub_ii, bMul_small, bMod_pos, bFdiv_pos, bPow_small, Int.reduceToNat, Int.reducePow, decide_eq_true_eq, decide_true, decide_false, bLt_ii, bGe_ii, bGt_ii, bLe_ii, bEq_ii, bNe_ii, bInt_i, bLen_l, bLen_d, bLen_ro, bLen_t, bList_l, bList_d, bList_ro, bList_t, bTuple_l, bTuple_d, bTuple_t, uAppend_one, uInsert_one, uPopAt_one, outs, aHas, aNo, aOne, aOr, bIx_l, bIx_d, bIx_t, bIx_ro, bTru, atI_lit, ixN_lit, bSl_l, bSl_d, bSl_ro, isi_l, isi_d, isi_t, isi_i, isi_b, isi_s, isi_n, Rs.env_ok, fSeq_l, fSeq_d, fSeq_ro, fSeq_t, fZip_ll, fZip_ld, fZip_dl, fZip_dd, fZip_tt, fEnum_l, fEnum_d, bIsN_of, bNotN_of, isNon_i, isNon_b, isNon_s, isNon_l, isNon_t, isNon_n, Tn.any, Tn.sub, eq_self, Bool.or_self, Bool.and_self, Bool.or_false, ne_eq, not_true, not_false_eq_true, and_self, and_true, true_and, opsFree, List.all_cons, List.all_nil, bEq_bb, bEq_ss, bNe_bb, bNe_ss, Bool.and_true, Bool.not_true, Bool.not_false, Bool.false_eq_true, List.any_cons, List.any_nil, Nat.reduceBEq, Bool.or_false, Bool.or_true, Bool.false_or, Bool.true_and, Bool.false_and, wipeE, unwipeE]
  have s1 : q__law_count_6 [some (.d (.lst (dM rows))), none, none, none, none, none, none, none, none, none, none] = .ok .nx [some (.d (.lst (dM rows))), some (.l (dM rows)), some (.d (.int 0)), none, none, none, none, none, none, none, none] := by
    unfold q__law_count_6
    simp only [p_stepC, p_stepF, p_seq, p_asg, p_drop, p_ret, p_pass, p_break, p_cont, p_ifs, p_if, p_de, p_ed, p_eo, p_do, p_use, p_move, p_pk, p_c, p_op2, p_op1, p_b, p_andT, p_orT, p_notT, p_tru, p_andV, p_orV, p_notV, p_aug, p_par, p_lst, p_tup, p_upd, p_isN, p_notN, p_isi, p_sl, p_inone, p_isome, p_cb, p_call, p_callk, p_anil, p_acons, p_dnil, p_dcons, p_enil, p_econs, p_yes, p_gn, p_gnil, p_gcons, p_gtup, p_gsub, p_cres, n_crT, n_cr2, takeOps, putOps, isOwnL, n_f1, atAll, Op.at, Rs.map_ok, n_bind, n_ap1, n_ap2, n_apL, Rs.bind_exc, Rs.bind_bad, n_of, Rs.of_none, Option.bind_some, Option.bind_none, Option.join_some, Option.map_some,
  List.getElem?_cons_zero, List.getElem?_cons_succ, List.getElem?_nil, List.set_cons_zero, List.set_cons_succ, List.length_cons, List.length_nil, T.toD, bl?_d, Nat.zero_lt_succ, Nat.succ_lt_succ_iff, if_true, if_false, reduceIte, reduceCtorEq, List.map_cons, List.map_nil, List.cons_append, List.nil_append, List.replicate_succ, List.replicate_zero, Nat.reduceAdd, Nat.reduceSub, Nat.reduceLT, Nat.reduceLeDiff, Nat.reduceEqDiff, bAdd_ii, bSub_ii, bMul_small, bMod_pos, bFdiv_pos, bPow_small, Int.reduceToNat, Int.reducePow, decide_eq_true_eq, decide_true, decide_false, bLt_ii, bGe_ii, bGt_ii, bLe_ii, bEq_ii, bNe_ii, bInt_i, bLen_l, bLen_d, bLen_ro, bLen_t, bList_l, bList_d, bList_ro, bList_t, bTuple_l, bTuple_d, bTuple_t, uAppend_one, uInsert_one, uPopAt_one, outs, aHas, aNo, aOne, aOr, bIx_l, bIx_d, bIx_t, bIx_ro, bTru, atI_lit, ixN_lit, bSl_l, bSl_d, bSl_ro, isi_l, isi_d, isi_t, isi_i, isi_b, isi_s, isi_n, Rs.env_ok, fSeq_l, fSeq_d, fSeq_ro, fSeq_t, fZip_ll, fZip_ld, fZip_dl, fZip_dd, fZip_tt, fEnum_l, fEnum_d, bIsN_of, bNotN_of, isNon_i, isNon_b, isNon_s, isNon_l, isNon_t, isNon_n, Tn.any, Tn.sub, eq_self, Bool.or_self, Bool.and_self, Bool.or_false, ne_eq, not_true, not_false_eq_true, and_self, and_true, true_and, opsFree, List.all_cons, List.all_nil, bEq_bb, bEq_ss, bNe_bb, bNe_ss, Bool.and_true, Bool.not_true, Bool.not_false, Bool.false_eq_true, List.any_cons, List.any_nil, Nat.reduceBEq, Bool.or_false, Bool.or_true, Bool.false_or, Bool.true_and, Bool.false_and, wipeE, unwipeE, p_comp, c1]
  have h1 : ∃ nn : Nat, (nn = n ∨ (rows = [] ∧ nn = 0)) ∧ (aCons (mDO (mIf (mB (mOp2 bNe (mPk 1) (mEO (mLst dNil)))) (mED (mCB (f1 bLen) (aCons (mEO (mOp2 bIx (mPk 1) (mDO (mC (.int 0))))) aNil))) (mC (.int 0)))) aNil) [some (.d (.lst (dM rows))), some (.l (dM rows)), some (.d (.int 0)), none, none, none, none, none, none, none, none] = .ok [.tmp (.d (.int (nn : Int)))] [some (.d (.lst (dM rows))), some (.l (dM rows)), some (.d (.int 0)), none, none, none, none, none, none, none, none] := by
    have q0 := bNe_nil_l (n := 1) (by omega) (dM_q rows)
    cases rows with
    | nil =>
      refine ⟨0, .inr ⟨rfl, rfl⟩, ?_⟩
      have q1 : (dM []).isEmpty = true := rfl
      rw [q1] at q0
      simp only [p_stepC, p_stepF, p_seq, p_asg, p_drop, p_ret, p_pass, p_break, p_cont, p_ifs, p_if, p_de, p_ed, p_eo, p_do, p_use, p_move, p_pk, p_c, p_op2, p_op1, p_b, p_andT, p_orT, p_notT, p_tru, p_andV, p_orV, p_notV, p_aug, p_par, p_lst, p_tup, p_upd, p_isN, p_notN, p_isi, p_sl, p_inone, p_isome, p_cb, p_call, p_callk, p_anil, p_acons, p_dnil, p_dcons, p_enil, p_econs, p_yes, p_gn, p_gnil, p_gcons, p_gtup, p_gsub, p_cres, n_crT, n_cr2, takeOps, putOps, isOwnL, n_f1, atAll, Op.at, Rs.map_ok, n_bind, n_ap1, n_ap2, n_apL, Rs.bind_exc, Rs.bind_bad, n_of, Rs.of_none, Option.bind_some, Option.bind_none, Option.join_some, Option.map_some,
  List.getElem?_cons_zero, List.getElem?_cons_succ, List.getElem?_nil, List.set_cons_zero, List.set_cons_succ, List.length_cons, List.length_nil, T.toD, bl?_d, Nat.zero_lt_succ, Nat.succ_lt_succ_iff, if_true, if_false, reduceIte, reduceCtorEq, List.map_cons, List.map_nil, List.cons_append, List.nil_append, List.replicate_succ, List.replicate_zero, Nat.reduceAdd, Nat.reduceSub, Nat.reduceLT, Nat.reduceLeDiff, Nat.reduceEqDiff, bAdd_ii, bSub_ii, bMul_small, bMod_pos, bFdiv_pos, bPow_small, Int.reduceToNat, Int.reducePow, decide_eq_true_eq, decide_true, decide_false, bLt_ii, bGe_ii, bGt_ii, bLe_ii, bEq_ii, bNe_ii, bInt_i, bLen_l, bLen_d, bLen_ro, bLen_t, bList_l, bList_d, bList_ro, bList_t, bTuple_l, bTuple_d, bTuple_t, uAppend_one, uInsert_one, uPopAt_one, outs, aHas, aNo, aOne, aOr, bIx_l, bIx_d, bIx_t, bIx_ro, bTru, atI_lit, ixN_lit, bSl_l, bSl_d, bSl_ro, isi_l, isi_d, isi_t, isi_i, isi_b, isi_s, isi_n, Rs.env_ok, fSeq_l, fSeq_d, fSeq_ro, fSeq_t, fZip_ll, fZip_ld, fZip_dl, fZip_dd, fZip_tt, fEnum_l, fEnum_d, bIsN_of, bNotN_of, isNon_i, isNon_b, isNon_s, isNon_l, isNon_t, isNon_n, Tn.any, Tn.sub, eq_self, Bool.or_self, Bool.and_self, Bool.or_false, ne_eq, not_true, not_false_eq_true, and_self, and_true, true_and, opsFree, List.all_cons, List.all_nil, bEq_bb, bEq_ss, bNe_bb, bNe_ss, Bool.and_true, Bool.not_true, Bool.not_false, Bool.false_eq_true, List.any_cons, List.any_nil, Nat.reduceBEq, Bool.or_false, Bool.or_true, Bool.false_or, Bool.true_and, Bool.false_and, wipeE, unwipeE, q0, sizeLine_val, Int.cast_ofNat_Int]
    | cons r0 rs =>
      refine ⟨n, .inl rfl, ?_⟩
      have a1 := dM_at (rows := r0 :: rs) (i := 0) (by simp)
      have a2 : (dM (r0 :: rs)).isEmpty = false := rfl
      have a3 : (r0.map D.int).length = n := by rw [List.length_map]; exact hr r0 List.mem_cons_self
      rw [List.getElem_cons_zero] at a1
      rw [a2] at q0
      unfold dR at a1
      simp only [p_stepC, p_stepF, p_seq, p_asg, p_drop, p_ret, p_pass, p_break, p_cont, p_ifs, p_if, p_de, p_ed, p_eo, p_do, p_use, p_move, p_pk, p_c, p_op2, p_op1, p_b, p_andT, p_orT, p_notT, p_tru, p_andV, p_orV, p_notV, p_aug, p_par, p_lst, p_tup, p_upd, p_isN, p_notN, p_isi, p_sl, p_inone, p_isome, p_cb, p_call, p_callk, p_anil, p_acons, p_dnil, p_dcons, p_enil, p_econs, p_yes, p_gn, p_gnil, p_gcons, p_gtup, p_gsub, p_cres, n_crT, n_cr2, takeOps, putOps, isOwnL, n_f1, atAll, Op.at, Rs.map_ok, n_bind, n_ap1, n_ap2, n_apL, Rs.bind_exc, Rs.bind_bad, n_of, Rs.of_none, Option.bind_some, Option.bind_none, Option.join_some, Option.map_some,
  List.getElem?_cons_zero, List.getElem?_cons_succ, List.getElem?_nil, List.set_cons_zero, List.set_cons_succ, List.length_cons, List.length_nil, T.toD, bl?_d, Nat.zero_lt_succ, Nat.succ_lt_succ_iff, if_true, if_false, reduceIte, reduceCtorEq, List.map_cons, List.map_nil, List.cons_append, List.nil_append, List.replicate_succ, List.replicate_zero, Nat.reduceAdd, Nat.reduceSub, Nat.reduceLT, Nat.reduceLeDiff, Nat.reduceEqDiff, bAdd_ii, bSub_ii, bMul_small, bMod_pos, bFdiv_pos, bPow_small, Int.reduceToNat, Int.reducePow, decide_eq_true_eq, decide_true, decide_false, bLt_ii, bGe_ii, bGt_ii, bLe_ii, bEq_ii, bNe_ii, bInt_i, bLen_l, bLen_d, bLen_ro, bLen_t, bList_l, bList_d, bList_ro, bList_t, bTuple_l, bTuple_d, bTuple_t, uAppend_one, uInsert_one, uPopAt_one, outs, aHas, aNo, aOne, aOr, bIx_l, bIx_d, bIx_t, bIx_ro, bTru, atI_lit, ixN_lit, bSl_l, bSl_d, bSl_ro, isi_l, isi_d, isi_t, isi_i, isi_b, isi_s, isi_n, Rs.env_ok, fSeq_l, fSeq_d, fSeq_ro, fSeq_t, fZip_ll, fZip_ld, fZip_dl, fZip_dd, fZip_tt, fEnum_l, fEnum_d, bIsN_of, bNotN_of, isNon_i, isNon_b, isNon_s, isNon_l, isNon_t, isNon_n, Tn.any, Tn.sub, eq_self, Bool.or_self, Bool.and_self, Bool.or_false, ne_eq, not_true, not_false_eq_true, and_self, and_true, true_and, opsFree, List.all_cons, List.all_nil, bEq_bb, bEq_ss, bNe_bb, bNe_ss, Bool.and_true, Bool.not_true, Bool.not_false, Bool.false_eq_true, List.any_cons, List.any_nil, Nat.reduceBEq, Bool.or_false, Bool.or_true, Bool.false_or, Bool.true_and, Bool.false_and, wipeE, unwipeE, q0, a1, a3, sizeLine_val]
  obtain ⟨nn, h2, h3⟩ := h1
  have h4 : ∃ k : Nat, ∃ p1 p4 p5 p6 p7 p8, forGo (gN 4) b__law_count_5 (intsFrom 0 nn) [some (.d (.lst (dM rows))), some (.l (dM rows)), some (.d (.int 0)), none, none, none, none, none, none, none, none] = .ok .nx [some (.d (.lst (dM rows))), p1, some (.d (.int (k : Int))), none, p4, p5, p6, p7, p8, none, none] ∧ Rk rows.length n (mx rows) k := by
    rcases h2 with rfl | ⟨h2, rfl⟩
    · exact cnt_loop (e := e) (T0 := rows.length) he hn (by omega) _ nn 0 [] rows none none none none none (by omega) K (by simp)
    · exact ⟨0, _, _, _, _, _, _, rfl, Rk.zero fun i j hi hj => absurd hi (by rw [h2]; simp)⟩
  obtain ⟨k, p1, p4, p5, p6, p7, p8, h5, h6⟩ := h4
  refine ⟨k, ?_, h6⟩
  have h7 : q__law_count_7 [some (.d (.lst (dM rows))), some (.l (dM rows)), some (.d (.int 0)), none, none, none, none, none, none, none, none] = .ok .nx [some (.d (.lst (dM rows))), p1, some (.d (.int (k : Int))), none, p4, p5, p6, p7, p8, none, none] := by
    refine (for_at h3 rfl (fR1_nat (n := nn) (by omega)) rfl h5).trans ?_
    rfl
  have k1 : mb__law_count [some (.d (.lst (dM rows))), none, none, none, none, none, none, none, none, none, none] = .ok (.rt (.d (.int k))) [some (.d (.lst (dM rows))), p1, some (.d (.int (k : Int))), none, p4, p5, p6, p7, p8, none, none] := by
    unfold mb__law_count
    rw [seq_nx s1, seq_nx h7]
    simp only [p_stepC, p_stepF, p_seq, p_asg, p_drop, p_ret, p_pass, p_break, p_cont, p_ifs, p_if, p_de, p_ed, p_eo, p_do, p_use, p_move, p_pk, p_c, p_op2, p_op1, p_b, p_andT, p_orT, p_notT, p_tru, p_andV, p_orV, p_notV, p_aug, p_par, p_lst, p_tup, p_upd, p_isN, p_notN, p_isi, p_sl, p_inone, p_isome, p_cb, p_call, p_callk, p_anil, p_acons, p_dnil, p_dcons, p_enil, p_econs, p_yes, p_gn, p_gnil, p_gcons, p_gtup, p_gsub, p_cres, n_crT, n_cr2, takeOps, putOps, isOwnL, n_f1, atAll, Op.at, Rs.map_ok, n_bind, n_ap1, n_ap2, n_apL, Rs.bind_exc, Rs.bind_bad, n_of, Rs.of_none, Option.bind_some, Option.bind_none, Option.join_some, Option.map_some,
  List.getElem?_cons_zero, List.getElem?_cons_succ, List.getElem?_nil, List.set_cons_zero, List.set_cons_succ, List.length_cons, List.length_nil, T.toD, bl?_d, Nat.zero_lt_succ, Nat.succ_lt_succ_iff, if_true, if_false, reduceIte, reduceCtorEq, List.map_cons, List.map_nil, List.cons_append, List.nil_append, List.replicate_succ, List.replicate_zero, Nat.reduceAdd, Nat.reduceSub, Nat.reduceLT, Nat.reduceLeDiff, Nat.reduceEqDiff, bAdd_ii, bSub_ii, bMul_small, bMod_pos, bFdiv_pos, bPow_small, Int.reduceToNat, Int.reducePow, decide_eq_true_eq, decide_true, decide_false, bLt_ii, bGe_ii, bGt_ii, bLe_ii, bEq_ii, bNe_ii, bInt_i, bLen_l, bLen_d, bLen_ro, bLen_t, bList_l, bList_d, bList_ro, bList_t, bTuple_l, bTuple_d, bTuple_t, uAppend_one, uInsert_one, uPopAt_one, outs, aHas, aNo, aOne, aOr, bIx_l, bIx_d, bIx_t, bIx_ro, bTru, atI_lit, ixN_lit, bSl_l, bSl_d, bSl_ro, isi_l, isi_d, isi_t, isi_i, isi_b, isi_s, isi_n, Rs.env_ok, fSeq_l, fSeq_d, fSeq_ro, fSeq_t, fZip_ll, fZip_ld, fZip_dl, fZip_dd, fZip_tt, fEnum_l, fEnum_d, bIsN_of, bNotN_of, isNon_i, isNon_b, isNon_s, isNon_l, isNon_t, isNon_n, Tn.any, Tn.sub, eq_self, Bool.or_self, Bool.and_self, Bool.or_false, ne_eq, not_true, not_false_eq_true, and_self, and_true, true_and, opsFree, List.all_cons, List.all_nil, bEq_bb, bEq_ss, bNe_bb, bNe_ss, Bool.and_true, Bool.not_true, Bool.not_false, Bool.false_eq_true, List.any_cons, List.any_nil, Nat.reduceBEq, Bool.or_false, Bool.or_true, Bool.false_or, Bool.true_and, Bool.false_and, wipeE, unwipeE]
  unfold m__law_count
  exact Eq.trans (fn_ret (by rfl) k1) (by rfl)
end NS
namespace NS
open PySem L2 LA
theorem fits_p {x : Int} {B : Nat} (h : x.natAbs ≤ 2 ^ B) (hB : B ≤ 400000) : Fits x := Nat.le_trans h (Nat.pow_le_pow_right (by decide) hB)
theorem at0_abs {r : Row} {B : Nat} (h : ∀ x ∈ r, x.natAbs ≤ B) (j : Nat) : (at0 r j).natAbs ≤ B := by
  by_cases hj : j < r.length
  · rw [at0_lt hj]; exact h _ (List.getElem_mem hj)
  · rw [at0_ge (by omega)]; exact Nat.zero_le B
/-- rows that the law makes -/
structure Gr (size : Nat) (B : Nat) (rows : List Row) : Prop where
  len : ∀ r ∈ rows, r.length = size
  bd : ∀ r ∈ rows, ∀ x ∈ r, x.natAbs ≤ 2 ^ B
theorem Gr.up {size B B' : Nat} {rows : List Row} (g : Gr size B rows) (h : B ≤ B') : Gr size B' rows := ⟨g.len, fun r hr x hx => Nat.le_trans (g.bd r hr x hx) (Nat.pow_le_pow_right (by decide) h)⟩
theorem Gr.add {size B : Nat} {rows : List Row} {r : Row} (g : Gr size B rows) (h1 : r.length = size) (h2 : ∀ x ∈ r, x.natAbs ≤ 2 ^ B) : Gr size B (rows ++ [r]) := ⟨fun r' h => by
  rcases List.mem_append.mp h with h | h
  · exact g.len r' h
  · rw [List.mem_singleton.mp h]; exact h1, fun r' h => by
  rcases List.mem_append.mp h with h | h
  · exact g.bd r' h
  · rw [List.mem_singleton.mp h]; exact h2⟩
theorem comb_abs {x y : Int} {l r : Row} {B : Nat} (hx : x.natAbs ≤ 2 ^ 70) (hy : y.natAbs ≤ 2 ^ 70) (hl : ∀ a ∈ l, a.natAbs ≤ 2 ^ B) (hr : ∀ b ∈ r, b.natAbs ≤ 2 ^ B) : ∀ z ∈ List.zipWith (fun a b => x * a + y * b) l r, z.natAbs ≤ 2 ^ (B + 71) := by
  induction l generalizing r with
  | nil => intro z hz; simp at hz
  | cons a l ih =>
    cases r with
    | nil => intro z hz; simp at hz
    | cons b r =>
      intro z hz
      rw [List.zipWith_cons_cons] at hz
      rcases List.mem_cons.mp hz with rfl | h
      · have a1 := Nat.mul_le_mul hx (hl a List.mem_cons_self)
        have a2 := Nat.mul_le_mul hy (hr b List.mem_cons_self)
        rw [← Int.natAbs_mul, ← Nat.pow_add] at a1 a2
        have e1 : 2 ^ (B + 71) = 2 * 2 ^ (70 + B) := by rw [show B + 71 = (70 + B) + 1 by omega, Nat.pow_succ, Nat.mul_comm]
        have := Int.natAbs_add_le (x * a) (y * b)
        omega
      · exact ih (fun a ha => hl a (List.mem_cons_of_mem _ ha)) (fun b hb => hr b (List.mem_cons_of_mem _ hb)) z h
theorem dM_snoc (rows : List Row) (r : Row) : dM rows ++ [dR r] = dM (rows ++ [r]) := by rw [dM_app]; rfl
theorem dM_getE {rows : List Row} {i : Nat} (h : i < (dM rows).length) : (dM rows)[i] = dR (rows[i]'(by rw [dM_len] at h; exact h)) := by simp only [dM, List.getElem_map]
theorem nums_go {many size : Nat} {g : Bool} {k : Nat} {b : List D} (hb : BagOk k b) (hk : k + 100 < 2 ^ 39) (hs : size ≤ 7) (L o5 o6 o7 o8 o9 o10 : Option T) :
    ∃ b', ∃ vs : List Int, mComp [13] fR1 (aCons (mPk 2) aNil) (gN 13) mYes (mED (mCall m__law_number (aCons (mPk 0) (aCons (mPk 3) aNil)))) [some (.l b), some (.d (.int (many : Int))), some (.d (.int (size : Int))), some (.d (.bl g)), L, o5, o6, o7, o8, o9, o10, none, none, none, none, none] = .ok (.l (vs.map D.int)) [some (.l b'), some (.d (.int (many : Int))), some (.d (.int (size : Int))), some (.d (.bl g)), L, o5, o6, o7, o8, o9, o10, none, none, none, none, none] ∧ BagOk (k + 28) b' ∧ vs.length = size ∧ ∀ x ∈ vs, x.natAbs ≤ 2 ^ 70 := by
  obtain ⟨env', acc', h1, b', vs, rfl, rfl, h2, h3, h4⟩ := comp_inv (vs := [13]) (g := gN 13) (t := mYes) (m := (mED (mCall m__law_number (aCons (mPk 0) (aCons (mPk 3) aNil))))) (fun i env acc => ∃ b', ∃ vs : List Int, env = [some (.l b'), some (.d (.int (many : Int))), some (.d (.int (size : Int))), some (.d (.bl g)), L, o5, o6, o7, o8, o9, o10, none, none, none, none, none] ∧ acc = vs.map D.int ∧ BagOk (k + 4 * i) b' ∧ vs.length = i ∧ ∀ x ∈ vs, x.natAbs ≤ 2 ^ 70) (intsFrom 0 size) 0 _ [] ⟨b, [], rfl, rfl, hb, rfl, fun _ h => (List.not_mem_nil h).elim⟩ (fun j d env acc hd ⟨b1, vs, he, ha, h2, h3, h4⟩ => by
    subst he ha
    have hj : j < size ∧ d = .int (j : Int) := by rw [← rangeD_from] at hd; exact rangeD_at hd
    obtain ⟨hj, rfl⟩ := hj
    rw [Nat.zero_add] at h2 h3 ⊢
    obtain ⟨b2, v, e1, h5, h6⟩ := number_ok (g := g) h2 (by omega)
    refine ⟨by rw [List.length_map, sizeLine_val]; omega, _, some (.int v), ?_, b2, vs ++ [v], rfl, by simp, by rw [show k + 4 * (j + 1) = k + 4 * j + 4 by omega]; exact h5, by simp; omega, fun x hx => ?_⟩
    · simp only [p_stepC, p_stepF, p_seq, p_asg, p_drop, p_ret, p_pass, p_break, p_cont, p_ifs, p_if, p_de, p_ed, p_eo, p_do, p_use, p_move, p_pk, p_c, p_op2, p_op1, p_b, p_andT, p_orT, p_notT, p_tru, p_andV, p_orV, p_notV, p_aug, p_par, p_lst, p_tup, p_upd, p_isN, p_notN, p_isi, p_sl, p_inone, p_isome, p_cb, p_call, p_callk, p_anil, p_acons, p_dnil, p_dcons, p_enil, p_econs, p_yes, p_gn, p_gnil, p_gcons, p_gtup, p_gsub, p_cres, n_crT, n_cr2, takeOps, putOps, isOwnL, n_f1, atAll, Op.at, Rs.map_ok, n_bind, n_ap1, n_ap2, n_apL, Rs.bind_exc, Rs.bind_bad, n_of, Rs.of_none, Option.bind_some, Option.bind_none, Option.join_some, Option.map_some,
  List.getElem?_cons_zero, List.getElem?_cons_succ, List.getElem?_nil, List.set_cons_zero, List.set_cons_succ, List.length_cons, List.length_nil, T.toD, bl?_d, Nat.zero_lt_succ, Nat.succ_lt_succ_iff, if_true, if_false, reduceIte, reduceCtorEq, List.map_cons, List.map_nil, List.cons_append, List.nil_append, List.replicate_succ, List.replicate_zero, Nat.reduceAdd, Nat.reduceSub, Nat.reduceLT, Nat.reduceLeDiff, Nat.reduceEqDiff, bAdd_ii, bSub_ii, bMul_small, bMod_pos, bFdiv_pos, bPow_small, Int.reduceToNat, Int.reducePow, decide_eq_true_eq, decide_true, decide_false, bLt_ii, bGe_ii, bGt_ii, bLe_ii, bEq_ii, bNe_ii, bInt_i, bLen_l, bLen_d, bLen_ro, bLen_t, bList_l, bList_d, bList_ro, bList_t, bTuple_l, bTuple_d, bTuple_t, uAppend_one, uInsert_one, uPopAt_one, outs, aHas, aNo, aOne, aOr, bIx_l, bIx_d, bIx_t, bIx_ro, bTru, atI_lit, ixN_lit, bSl_l, bSl_d, bSl_ro, isi_l, isi_d, isi_t, isi_i, isi_b, isi_s, isi_n, Rs.env_ok, fSeq_l, fSeq_d, fSeq_ro, fSeq_t, fZip_ll, fZip_ld, fZip_dl, fZip_dd, fZip_tt, fEnum_l, fEnum_d, bIsN_of, bNotN_of, isNon_i, isNon_b, isNon_s, isNon_l, isNon_t, isNon_n, Tn.any, Tn.sub, eq_self, Bool.or_self, Bool.and_self, Bool.or_false, ne_eq, not_true, not_false_eq_true, and_self, and_true, true_and, opsFree, List.all_cons, List.all_nil, bEq_bb, bEq_ss, bNe_bb, bNe_ss, Bool.and_true, Bool.not_true, Bool.not_false, Bool.false_eq_true, List.any_cons, List.any_nil, Nat.reduceBEq, Bool.or_false, Bool.or_true, Bool.false_or, Bool.true_and, Bool.false_and, wipeE, unwipeE, e1]
    · rcases List.mem_append.mp hx with h | h
      · exact h4 x h
      · rw [List.mem_singleton.mp h]; exact h6)
  have hl : (intsFrom 0 size).length = size := by unfold intsFrom; rw [List.length_map, List.length_range']
  rw [hl, Nat.zero_add] at h2 h3
  refine ⟨b', vs, ?_, h2.mono (by omega), h3, h4⟩
  have h5 : (aCons (mPk 2) aNil) [some (.l b), some (.d (.int (many : Int))), some (.d (.int (size : Int))), some (.d (.bl g)), L, o5, o6, o7, o8, o9, o10, none, none, none, none, none] = .ok [.pk 2] [some (.l b), some (.d (.int (many : Int))), some (.d (.int (size : Int))), some (.d (.bl g)), L, o5, o6, o7, o8, o9, o10, none, none, none, none, none] := by simp only [p_stepC, p_stepF, p_seq, p_asg, p_drop, p_ret, p_pass, p_break, p_cont, p_ifs, p_if, p_de, p_ed, p_eo, p_do, p_use, p_move, p_pk, p_c, p_op2, p_op1, p_b, p_andT, p_orT, p_notT, p_tru, p_andV, p_orV, p_notV, p_aug, p_par, p_lst, p_tup, p_upd, p_isN, p_notN, p_isi, p_sl, p_inone, p_isome, p_cb, p_call, p_callk, p_anil, p_acons, p_dnil, p_dcons, p_enil, p_econs, p_yes, p_gn, p_gnil, p_gcons, p_gtup, p_gsub, p_cres, n_crT, n_cr2, takeOps, putOps, isOwnL, n_f1, atAll, Op.at, Rs.map_ok, n_bind, n_ap1, n_ap2, n_apL, Rs.bind_exc, Rs.bind_bad, n_of, Rs.of_none, Option.bind_some, Option.bind_none, Option.join_some, Option.map_some,
  List.getElem?_cons_zero, List.getElem?_cons_succ, List.getElem?_nil, List.set_cons_zero, List.set_cons_succ, List.length_cons, List.length_nil, T.toD, bl?_d, Nat.zero_lt_succ, Nat.succ_lt_succ_iff, if_true, if_false, reduceIte, reduceCtorEq, List.map_cons, List.map_nil, List.cons_append, List.nil_append, List.replicate_succ, List.replicate_zero, Nat.reduceAdd, Nat.reduceSub, Nat.reduceLT, Nat.reduceLeDiff, Nat.reduceEqDiff, bAdd_ii, bSub_ii, bMul_small, bMod_pos, bFdiv_pos, bPow_small, Int.reduceToNat, Int.reducePow, decide_eq_true_eq, decide_true, decide_false, bLt_ii, bGe_ii, bGt_ii, bLe_ii, bEq_ii, bNe_ii, bInt_i, bLen_l, bLen_d, bLen_ro, bLen_t, bList_l, bList_d, bList_ro, bList_t, bTuple_l, bTuple_d, bTuple_t, uAppend_one, uInsert_one, uPopAt_one, outs, aHas, aNo, aOne, aOr, bIx_l, bIx_d, bIx_t, bIx_ro, bTru, atI_lit, ixN_lit, bSl_l, bSl_d, bSl_ro, isi_l, isi_d, isi_t, isi_i, isi_b, isi_s, isi_n, Rs.env_ok, fSeq_l, fSeq_d, fSeq_ro, fSeq_t, fZip_ll, fZip_ld, fZip_dl, fZip_dd, fZip_tt, fEnum_l, fEnum_d, bIsN_of, bNotN_of, isNon_i, isNon_b, isNon_s, isNon_l, isNon_t, isNon_n, Tn.any, Tn.sub, eq_self, Bool.or_self, Bool.and_self, Bool.or_false, ne_eq, not_true, not_false_eq_true, and_self, and_true, true_and, opsFree, List.all_cons, List.all_nil, bEq_bb, bEq_ss, bNe_bb, bNe_ss, Bool.and_true, Bool.not_true, Bool.not_false, Bool.false_eq_true, List.any_cons, List.any_nil, Nat.reduceBEq, Bool.or_false, Bool.or_true, Bool.false_or, Bool.true_and, Bool.false_and, wipeE, unwipeE]
  refine (comp_at (vs := [13]) h5 rfl (fR1_nat (n := size) (by omega)) h1).trans ?_
  rfl
theorem rep_flat : ∀ n : Nat, (List.replicate n [D.int 0]).flatten = (List.replicate n (0 : Int)).map D.int
  | 0 => rfl
  | n + 1 => by rw [List.replicate_succ, List.flatten_cons, rep_flat n]; rfl
/-- the slots of the law's numbers -/
def nE (b : List D) (many size : Nat) (g : Bool) (rows : List Row) (o5 o6 o7 o8 o9 o10 : Option T) : Env := [some (.l b), some (.d (.int (many : Int))), some (.d (.int (size : Int))), some (.d (.bl g)), some (.l (dM rows)), o5, o6, o7, o8, o9, o10, none, none, none, none, none]
theorem num_c0 {k i many size : Nat} {b : List D} {g : Bool} {rows : List Row} (hb : BagOk k b) (hk : k + 200 < 2 ^ 39) (hi : rows.length = i) (him : i < many) (hm : many ≤ 7) (hs : size ≤ 7) (G : Gr size (71 * (i + 1)) rows) (o5 o6 o7 o8 o9 o10 : Option T) (w : Int) (b1 : List D) (e1 : m__law_draw [.l b, .d (.int 8)] = .ok (.d (.int w)) [some (.l b1), some (.d (.int 8))]) (h1 : BagOk (k + 1) b1) (c0 : w = 0 ∧ 1 < i) :
    ∃ b' r p6 p7 p8 p9 p10, stepF (gN 5) b__law_numbers_2 (.int (i : Int)) (nE b many size g rows o5 o6 o7 o8 o9 o10) = .ok .nx (nE b' many size g (rows ++ [r]) (some (.d (.int (i : Int)))) p6 p7 p8 p9 p10) ∧ BagOk (k + 50) b' ∧ r.length = size ∧ ∀ x ∈ r, x.natAbs ≤ 2 ^ (71 * (i + 2)) := by
  have la : (dM rows).length < sizeLine := by rw [dM_len, sizeLine_val]; omega
  have up : 71 * (i + 1) + 71 = 71 * (i + 2) := by omega
  obtain ⟨c0, c1⟩ := c0
  have ne : dM rows ≠ [] := fun h => by
    have h2 : (0 : Nat) = rows.length := by rw [← dM_len rows, h]; rfl
    omega
  have lx : (dM rows).length < 2 ^ 64 := by rw [dM_len]; omega
  obtain ⟨b2, l, hl, e2, h4⟩ := of_ok2 h1 (by omega) ne lx
  obtain ⟨b3, r, hr, e3, h5⟩ := of_ok2 h4 (by omega) ne lx
  obtain ⟨b4, x, e4, h6, h7⟩ := number_ok (g := g) h5 (by omega)
  obtain ⟨b5, y, e5, h8, h9⟩ := number_ok (g := g) h6 (by omega)
  rw [dM_getE hl] at e2
  rw [dM_getE hr] at e3
  have hl' : l < rows.length := by rw [dM_len] at hl; exact hl
  have hr' : r < rows.length := by rw [dM_len] at hr; exact hr
  have lm := List.getElem_mem hl'
  have rm := List.getElem_mem hr'
  have cs : ∀ L o5 o6, compGo [11, 12] (gTup' 2 (gCons' (gN 11) (gCons' (gN 12) gNil'))) mYes (mED (mOp2 bAdd (mEO (mOp2 bMul (mPk 9) (mPk 11))) (mEO (mOp2 bMul (mPk 10) (mPk 12))))) (zipD ((rows[l]).map D.int) ((rows[r]).map D.int)) [some (.l b5), some (.d (.int (many : Int))), some (.d (.int (size : Int))), some (.d (.bl g)), L, o5, o6, some (.d (dR rows[l])), some (.d (dR rows[r])), some (.d (.int x)), some (.d (.int y)), none, none, none, none, none] [] = .ok ((List.zipWith (fun a b => x * a + y * b) rows[l] rows[r]).map D.int) [some (.l b5), some (.d (.int (many : Int))), some (.d (.int (size : Int))), some (.d (.bl g)), L, o5, o6, some (.d (dR rows[l])), some (.d (dR rows[r])), some (.d (.int x)), some (.d (.int y)), none, none, none, none, none] := fun L o5 o6 => by
    refine (comp_map (onPair fun a b => x * a + y * b) _ [] (fun d hd => ?_) (by
      have := zip_len2 ((rows[l]).map D.int) ((rows[r]).map D.int)
      rw [List.length_map, G.len _ lm] at this
      rw [sizeLine_val]; simp only [List.length_nil]; omega)).trans (by rw [List.nil_append, fm_zip])
    obtain ⟨u, hu, v, hv, rfl⟩ := zip_ints hd
    have f1 := (fits_p h7 (by omega)).mul (fits_p (G.bd _ lm u hu) (by omega))
    have f2 := (fits_p h9 (by omega)).mul (fits_p (G.bd _ rm v hv) (by omega))
    simp only [p_stepC, p_stepF, p_seq, p_asg, p_drop, p_ret, p_pass, p_break, p_cont, p_ifs, p_if, p_de, p_ed, p_eo, p_do, p_use, p_move, p_pk, p_c, p_op2, p_op1, p_b, p_andT, p_orT, p_notT, p_tru, p_andV, p_orV, p_notV, p_aug, p_par, p_lst, p_tup, p_upd, p_isN, p_notN, p_isi, p_sl, p_inone, p_isome, p_cb, p_call, p_callk, p_anil, p_acons, p_dnil, p_dcons, p_enil, p_econs, p_yes, p_gn, p_gnil, p_gcons, p_gtup, p_gsub, p_cres, n_crT, n_cr2, takeOps, putOps, isOwnL, n_f1, atAll, Op.at, Rs.map_ok, n_bind, n_ap1, n_ap2, n_apL, Rs.bind_exc, Rs.bind_bad, n_of, Rs.of_none, Option.bind_some, Option.bind_none, Option.join_some, Option.map_some,
  List.getElem?_cons_zero, List.getElem?_cons_succ, List.getElem?_nil, List.set_cons_zero, List.set_cons_succ, List.length_cons, List.length_nil, T.toD, bl?_d, Nat.zero_lt_succ, Nat.succ_lt_succ_iff, if_true, if_false, reduceIte, reduceCtorEq, List.map_cons, List.map_nil, List.cons_append, List.nil_append, List.replicate_succ, List.replicate_zero, Nat.reduceAdd, Nat.reduceSub, Nat.reduceLT, Nat.reduceLeDiff, Nat.reduceEqDiff, bAdd_ii, bSub_ii, bMul_small, bMod_pos, bFdiv_pos, bPow_small, Int.reduceToNat, Int.reducePow, decide_eq_true_eq, decide_true, decide_false, bLt_ii, bGe_ii, bGt_ii, bLe_ii, bEq_ii, bNe_ii, bInt_i, bLen_l, bLen_d, bLen_ro, bLen_t, bList_l, bList_d, bList_ro, bList_t, bTuple_l, bTuple_d, bTuple_t, uAppend_one, uInsert_one, uPopAt_one, outs, aHas, aNo, aOne, aOr, bIx_l, bIx_d, bIx_t, bIx_ro, bTru, atI_lit, ixN_lit, bSl_l, bSl_d, bSl_ro, isi_l, isi_d, isi_t, isi_i, isi_b, isi_s, isi_n, Rs.env_ok, fSeq_l, fSeq_d, fSeq_ro, fSeq_t, fZip_ll, fZip_ld, fZip_dl, fZip_dd, fZip_tt, fEnum_l, fEnum_d, bIsN_of, bNotN_of, isNon_i, isNon_b, isNon_s, isNon_l, isNon_t, isNon_n, Tn.any, Tn.sub, eq_self, Bool.or_self, Bool.and_self, Bool.or_false, ne_eq, not_true, not_false_eq_true, and_self, and_true, true_and, opsFree, List.all_cons, List.all_nil, bEq_bb, bEq_ss, bNe_bb, bNe_ss, Bool.and_true, Bool.not_true, Bool.not_false, Bool.false_eq_true, List.any_cons, List.any_nil, Nat.reduceBEq, Bool.or_false, Bool.or_true, Bool.false_or, Bool.true_and, Bool.false_and, wipeE, unwipeE, bMul_f f1, bMul_f f2, onPair]
  refine ⟨b5, List.zipWith (fun a b => x * a + y * b) rows[l] rows[r], some (.d (.int w)), some (.d (dR rows[l])), some (.d (dR rows[r])), some (.d (.int x)), some (.d (.int y)), ?_, h8.mono (by omega), by rw [List.length_zipWith, G.len _ lm, G.len _ rm]; omega, ?_⟩
  · have ds := dM_snoc rows (List.zipWith (fun a b => x * a + y * b) rows[l] rows[r])
    unfold nE b__law_numbers_2 q__law_numbers_0 q__law_numbers_1
    unfold dR at *
    have c1' : (1 : Int) < (i : Int) := by omega
    simp only [p_stepC, p_stepF, p_seq, p_asg, p_drop, p_ret, p_pass, p_break, p_cont, p_ifs, p_if, p_de, p_ed, p_eo, p_do, p_use, p_move, p_pk, p_c, p_op2, p_op1, p_b, p_andT, p_orT, p_notT, p_tru, p_andV, p_orV, p_notV, p_aug, p_par, p_lst, p_tup, p_upd, p_isN, p_notN, p_isi, p_sl, p_inone, p_isome, p_cb, p_call, p_callk, p_anil, p_acons, p_dnil, p_dcons, p_enil, p_econs, p_yes, p_gn, p_gnil, p_gcons, p_gtup, p_gsub, p_cres, n_crT, n_cr2, takeOps, putOps, isOwnL, n_f1, atAll, Op.at, Rs.map_ok, n_bind, n_ap1, n_ap2, n_apL, Rs.bind_exc, Rs.bind_bad, n_of, Rs.of_none, Option.bind_some, Option.bind_none, Option.join_some, Option.map_some,
  List.getElem?_cons_zero, List.getElem?_cons_succ, List.getElem?_nil, List.set_cons_zero, List.set_cons_succ, List.length_cons, List.length_nil, T.toD, bl?_d, Nat.zero_lt_succ, Nat.succ_lt_succ_iff, if_true, if_false, reduceIte, reduceCtorEq, List.map_cons, List.map_nil, List.cons_append, List.nil_append, List.replicate_succ, List.replicate_zero, Nat.reduceAdd, Nat.reduceSub, Nat.reduceLT, Nat.reduceLeDiff, Nat.reduceEqDiff, bAdd_ii, bSub_ii, bMul_small, bMod_pos, bFdiv_pos, bPow_small, Int.reduceToNat, Int.reducePow, decide_eq_true_eq, decide_true, decide_false, bLt_ii, bGe_ii, bGt_ii, bLe_ii, bEq_ii, bNe_ii, bInt_i, bLen_l, bLen_d, bLen_ro, bLen_t, bList_l, bList_d, bList_ro, bList_t, bTuple_l, bTuple_d, bTuple_t, uAppend_one, uInsert_one, uPopAt_one, outs, aHas, aNo, aOne, aOr, bIx_l, bIx_d, bIx_t, bIx_ro, bTru, atI_lit, ixN_lit, bSl_l, bSl_d, bSl_ro, isi_l, isi_d, isi_t, isi_i, isi_b, isi_s, isi_n, Rs.env_ok, fSeq_l, fSeq_d, fSeq_ro, fSeq_t, fZip_ll, fZip_ld, fZip_dl, fZip_dd, fZip_tt, fEnum_l, fEnum_d, bIsN_of, bNotN_of, isNon_i, isNon_b, isNon_s, isNon_l, isNon_t, isNon_n, Tn.any, Tn.sub, eq_self, Bool.or_self, Bool.and_self, Bool.or_false, ne_eq, not_true, not_false_eq_true, and_self, and_true, true_and, opsFree, List.all_cons, List.all_nil, bEq_bb, bEq_ss, bNe_bb, bNe_ss, Bool.and_true, Bool.not_true, Bool.not_false, Bool.false_eq_true, List.any_cons, List.any_nil, Nat.reduceBEq, Bool.or_false, Bool.or_true, Bool.false_or, Bool.true_and, Bool.false_and, wipeE, unwipeE, e1, c0, c1', e2, e3, e4, e5, p_comp, cs, la, ds]
  · rw [← up]; exact comb_abs h7 h9 (G.bd _ lm) (G.bd _ rm)
theorem num_c1 {k i many size : Nat} {b : List D} {g : Bool} {rows : List Row} (hb : BagOk k b) (hk : k + 200 < 2 ^ 39) (hi : rows.length = i) (him : i < many) (hm : many ≤ 7) (hs : size ≤ 7) (G : Gr size (71 * (i + 1)) rows) (o5 o6 o7 o8 o9 o10 : Option T) (w : Int) (b1 : List D) (e1 : m__law_draw [.l b, .d (.int 8)] = .ok (.d (.int w)) [some (.l b1), some (.d (.int 8))]) (h1 : BagOk (k + 1) b1) (c0 : ¬ (w = 0 ∧ 1 < i)) (c1 : w = 1 ∧ 0 < i) :
    ∃ b' r p6 p7 p8 p9 p10, stepF (gN 5) b__law_numbers_2 (.int (i : Int)) (nE b many size g rows o5 o6 o7 o8 o9 o10) = .ok .nx (nE b' many size g (rows ++ [r]) (some (.d (.int (i : Int)))) p6 p7 p8 p9 p10) ∧ BagOk (k + 50) b' ∧ r.length = size ∧ ∀ x ∈ r, x.natAbs ≤ 2 ^ (71 * (i + 2)) := by
  have la : (dM rows).length < sizeLine := by rw [dM_len, sizeLine_val]; omega
  have up : 71 * (i + 1) + 71 = 71 * (i + 2) := by omega
  obtain ⟨c1, c2⟩ := c1
  have ne : dM rows ≠ [] := fun h => by
    have h2 : (0 : Nat) = rows.length := by rw [← dM_len rows, h]; rfl
    omega
  have lx : (dM rows).length < 2 ^ 64 := by rw [dM_len]; omega
  obtain ⟨b2, l, hl, e2, h4⟩ := of_ok2 h1 (by omega) ne lx
  rw [dM_getE hl] at e2
  have hl' : l < rows.length := by rw [dM_len] at hl; exact hl
  have lm := List.getElem_mem hl'
  refine ⟨b2, rows[l], some (.d (.int w)), o7, o8, o9, o10, ?_, h4.mono (by omega), G.len _ lm, fun x hx => Nat.le_trans (G.bd _ lm x hx) (Nat.pow_le_pow_right (by decide) (by omega))⟩
  have ds := dM_snoc rows rows[l]
  unfold b__law_numbers_2 q__law_numbers_0 q__law_numbers_1
  generalize (mComp [13] fR1 (aCons (mPk 2) aNil) (gN 13) mYes (mED (mCall m__law_number (aCons (mPk 0) (aCons (mPk 3) aNil))))) = Q
  unfold nE at *
  unfold dR at *
  have c2' : (0 : Int) < (i : Int) := by omega
  subst c1
  simp only [p_stepC, p_stepF, p_seq, p_asg, p_drop, p_ret, p_pass, p_break, p_cont, p_ifs, p_if, p_de, p_ed, p_eo, p_do, p_use, p_move, p_pk, p_c, p_op2, p_op1, p_b, p_andT, p_orT, p_notT, p_tru, p_andV, p_orV, p_notV, p_aug, p_par, p_lst, p_tup, p_upd, p_isN, p_notN, p_isi, p_sl, p_inone, p_isome, p_cb, p_call, p_callk, p_anil, p_acons, p_dnil, p_dcons, p_enil, p_econs, p_yes, p_gn, p_gnil, p_gcons, p_gtup, p_gsub, p_cres, n_crT, n_cr2, takeOps, putOps, isOwnL, n_f1, atAll, Op.at, Rs.map_ok, n_bind, n_ap1, n_ap2, n_apL, Rs.bind_exc, Rs.bind_bad, n_of, Rs.of_none, Option.bind_some, Option.bind_none, Option.join_some, Option.map_some,
  List.getElem?_cons_zero, List.getElem?_cons_succ, List.getElem?_nil, List.set_cons_zero, List.set_cons_succ, List.length_cons, List.length_nil, T.toD, bl?_d, Nat.zero_lt_succ, Nat.succ_lt_succ_iff, if_true, if_false, reduceIte, reduceCtorEq, List.map_cons, List.map_nil, List.cons_append, List.nil_append, List.replicate_succ, List.replicate_zero, Nat.reduceAdd, Nat.reduceSub, Nat.reduceLT, Nat.reduceLeDiff, Nat.reduceEqDiff, bAdd_ii, bSub_ii, bMul_small, bMod_pos, bFdiv_pos, bPow_small, Int.reduceToNat, Int.reducePow, decide_eq_true_eq, decide_true, decide_false, bLt_ii, bGe_ii, bGt_ii, bLe_ii, bEq_ii, bNe_ii, bInt_i, bLen_l, bLen_d, bLen_ro, bLen_t, bList_l, bList_d, bList_ro, bList_t, bTuple_l, bTuple_d, bTuple_t, uAppend_one, uInsert_one, uPopAt_one, outs, aHas, aNo, aOne, aOr, bIx_l, bIx_d, bIx_t, bIx_ro, bTru, atI_lit, ixN_lit, bSl_l, bSl_d, bSl_ro, isi_l, isi_d, isi_t, isi_i, isi_b, isi_s, isi_n, Rs.env_ok, fSeq_l, fSeq_d, fSeq_ro, fSeq_t, fZip_ll, fZip_ld, fZip_dl, fZip_dd, fZip_tt, fEnum_l, fEnum_d, bIsN_of, bNotN_of, isNon_i, isNon_b, isNon_s, isNon_l, isNon_t, isNon_n, Tn.any, Tn.sub, eq_self, Bool.or_self, Bool.and_self, Bool.or_false, ne_eq, not_true, not_false_eq_true, and_self, and_true, true_and, opsFree, List.all_cons, List.all_nil, bEq_bb, bEq_ss, bNe_bb, bNe_ss, Bool.and_true, Bool.not_true, Bool.not_false, Bool.false_eq_true, List.any_cons, List.any_nil, Nat.reduceBEq, Bool.or_false, Bool.or_true, Bool.false_or, Bool.true_and, Bool.false_and, wipeE, unwipeE, e1, c2', e2, la, ds, show ¬ ((1 : Int) = 0) by decide]
theorem num_c2z {k i many size : Nat} {b : List D} {g : Bool} {rows : List Row} (hb : BagOk k b) (hk : k + 200 < 2 ^ 39) (hi : rows.length = i) (him : i < many) (hm : many ≤ 7) (hs : size ≤ 7) (G : Gr size (71 * (i + 1)) rows) (o5 o6 o7 o8 o9 o10 : Option T) (w : Int) (b1 : List D) (e1 : m__law_draw [.l b, .d (.int 8)] = .ok (.d (.int w)) [some (.l b1), some (.d (.int 8))]) (h1 : BagOk (k + 1) b1) (c2 : w = 2) (v : Int) (b3 : List D) (e2 : m__law_draw [.l b1, .d (.int 3)] = .ok (.d (.int v)) [some (.l b3), some (.d (.int 3))]) (h4 : BagOk (k + 2) b3) (c3 : v = 0) :
    ∃ b' r p6 p7 p8 p9 p10, stepF (gN 5) b__law_numbers_2 (.int (i : Int)) (nE b many size g rows o5 o6 o7 o8 o9 o10) = .ok .nx (nE b' many size g (rows ++ [r]) (some (.d (.int (i : Int)))) p6 p7 p8 p9 p10) ∧ BagOk (k + 50) b' ∧ r.length = size ∧ ∀ x ∈ r, x.natAbs ≤ 2 ^ (71 * (i + 2)) := by
  have la : (dM rows).length < sizeLine := by rw [dM_len, sizeLine_val]; omega
  have up : 71 * (i + 1) + 71 = 71 * (i + 2) := by omega
  refine ⟨b3, List.replicate size 0, some (.d (.int w)), o7, o8, o9, o10, ?_, h4.mono (by omega), List.length_replicate, fun x hx => by rw [(List.mem_replicate.mp hx).2]; exact Nat.zero_le _⟩
  have ds := dM_snoc rows (List.replicate size 0)
  have ml : bMul (.l [.int 0]) (.d (.int (size : Int))) = some (.l ((List.replicate size (0 : Int)).map D.int)) := by
    rw [bMul_li, if_pos (by refine ⟨by omega, by omega, ?_⟩; rw [sizeLine_val]; simp only [List.length_cons, List.length_nil]; omega)]
    rw [Int.toNat_natCast]
    rw [rep_flat]
  unfold b__law_numbers_2 q__law_numbers_0 q__law_numbers_1
  generalize (mComp [13] fR1 (aCons (mPk 2) aNil) (gN 13) mYes (mED (mCall m__law_number (aCons (mPk 0) (aCons (mPk 3) aNil))))) = Q
  unfold nE at *
  unfold dR at *
  subst c2 c3
  have la' : (dM rows).length < 16777216 := by rw [dM_len]; omega
  simp only [p_stepC, p_stepF, p_seq, p_asg, p_drop, p_ret, p_pass, p_break, p_cont, p_ifs, p_if, p_de, p_ed, p_eo, p_do, p_use, p_move, p_pk, p_c, p_op2, p_op1, p_b, p_andT, p_orT, p_notT, p_tru, p_andV, p_orV, p_notV, p_aug, p_par, p_lst, p_tup, p_upd, p_isN, p_notN, p_isi, p_sl, p_inone, p_isome, p_cb, p_call, p_callk, p_anil, p_acons, p_dnil, p_dcons, p_enil, p_econs, p_yes, p_gn, p_gnil, p_gcons, p_gtup, p_gsub, p_cres, n_crT, n_cr2, takeOps, putOps, isOwnL, n_f1, atAll, Op.at, Rs.map_ok, n_bind, n_ap1, n_ap2, n_apL, Rs.bind_exc, Rs.bind_bad, n_of, Rs.of_none, Option.bind_some, Option.bind_none, Option.join_some, Option.map_some,
  List.getElem?_cons_zero, List.getElem?_cons_succ, List.getElem?_nil, List.set_cons_zero, List.set_cons_succ, List.length_cons, List.length_nil, T.toD, bl?_d, Nat.zero_lt_succ, Nat.succ_lt_succ_iff, if_true, if_false, reduceIte, reduceCtorEq, List.map_cons, List.map_nil, List.cons_append, List.nil_append, List.replicate_succ, List.replicate_zero, Nat.reduceAdd, Nat.reduceSub, Nat.reduceLT, Nat.reduceLeDiff, Nat.reduceEqDiff, bAdd_ii, bSub_ii, bMul_small, bMod_pos, bFdiv_pos, bPow_small, Int.reduceToNat, Int.reducePow, decide_eq_true_eq, decide_true, decide_false, bLt_ii, bGe_ii, bGt_ii, bLe_ii, bEq_ii, bNe_ii, bInt_i, bLen_l, bLen_d, bLen_ro, bLen_t, bList_l, bList_d, bList_ro, bList_t, bTuple_l, bTuple_d, bTuple_t, uAppend_one, uInsert_one, uPopAt_one, outs, aHas, aNo, aOne, aOr, bIx_l, bIx_d, bIx_t, bIx_ro, bTru, atI_lit, ixN_lit, bSl_l, bSl_d, bSl_ro, isi_l, isi_d, isi_t, isi_i, isi_b, isi_s, isi_n, Rs.env_ok, fSeq_l, fSeq_d, fSeq_ro, fSeq_t, fZip_ll, fZip_ld, fZip_dl, fZip_dd, fZip_tt, fEnum_l, fEnum_d, bIsN_of, bNotN_of, isNon_i, isNon_b, isNon_s, isNon_l, isNon_t, isNon_n, Tn.any, Tn.sub, eq_self, Bool.or_self, Bool.and_self, Bool.or_false, ne_eq, not_true, not_false_eq_true, and_self, and_true, true_and, opsFree, List.all_cons, List.all_nil, bEq_bb, bEq_ss, bNe_bb, bNe_ss, Bool.and_true, Bool.not_true, Bool.not_false, Bool.false_eq_true, List.any_cons, List.any_nil, Nat.reduceBEq, Bool.or_false, Bool.or_true, Bool.false_or, Bool.true_and, Bool.false_and, wipeE, unwipeE, e1, e2, ml, la', ds, show ¬ ((2 : Int) = 0) by decide, show ¬ ((2 : Int) = 1) by decide, sizeLine_val]
theorem num_c2n {k i many size : Nat} {b : List D} {g : Bool} {rows : List Row} (hb : BagOk k b) (hk : k + 200 < 2 ^ 39) (hi : rows.length = i) (him : i < many) (hm : many ≤ 7) (hs : size ≤ 7) (G : Gr size (71 * (i + 1)) rows) (o5 o6 o7 o8 o9 o10 : Option T) (w : Int) (b1 : List D) (e1 : m__law_draw [.l b, .d (.int 8)] = .ok (.d (.int w)) [some (.l b1), some (.d (.int 8))]) (h1 : BagOk (k + 1) b1) (c2 : w = 2) (v : Int) (b3 : List D) (e2 : m__law_draw [.l b1, .d (.int 3)] = .ok (.d (.int v)) [some (.l b3), some (.d (.int 3))]) (h4 : BagOk (k + 2) b3) (c3 : ¬ v = 0) :
    ∃ b' r p6 p7 p8 p9 p10, stepF (gN 5) b__law_numbers_2 (.int (i : Int)) (nE b many size g rows o5 o6 o7 o8 o9 o10) = .ok .nx (nE b' many size g (rows ++ [r]) (some (.d (.int (i : Int)))) p6 p7 p8 p9 p10) ∧ BagOk (k + 50) b' ∧ r.length = size ∧ ∀ x ∈ r, x.natAbs ≤ 2 ^ (71 * (i + 2)) := by
  have la : (dM rows).length < sizeLine := by rw [dM_len, sizeLine_val]; omega
  have up : 71 * (i + 1) + 71 = 71 * (i + 2) := by omega
  have b2 : 2 ^ 70 ≤ 2 ^ (71 * (i + 2)) := Nat.pow_le_pow_right (by decide) (by omega)
  obtain ⟨b4, vs, e3, h7, h8, h9⟩ := nums_go (many := many) (size := size) (g := g) h4 (by omega) hs (some (.l (dM rows))) (some (.d (.int (i : Int)))) (some (.d (.int w))) o7 o8 o9 o10
  refine ⟨b4, vs, some (.d (.int w)), o7, o8, o9, o10, ?_, h7.mono (by omega), h8, fun x hx => Nat.le_trans (h9 x hx) b2⟩
  have ds := dM_snoc rows vs
  unfold b__law_numbers_2 q__law_numbers_0 q__law_numbers_1
  generalize (mComp [13] fR1 (aCons (mPk 2) aNil) (gN 13) mYes (mED (mCall m__law_number (aCons (mPk 0) (aCons (mPk 3) aNil))))) = Q at e3 ⊢
  unfold nE at *
  unfold dR at *
  subst c2
  simp only [p_stepC, p_stepF, p_seq, p_asg, p_drop, p_ret, p_pass, p_break, p_cont, p_ifs, p_if, p_de, p_ed, p_eo, p_do, p_use, p_move, p_pk, p_c, p_op2, p_op1, p_b, p_andT, p_orT, p_notT, p_tru, p_andV, p_orV, p_notV, p_aug, p_par, p_lst, p_tup, p_upd, p_isN, p_notN, p_isi, p_sl, p_inone, p_isome, p_cb, p_call, p_callk, p_anil, p_acons, p_dnil, p_dcons, p_enil, p_econs, p_yes, p_gn, p_gnil, p_gcons, p_gtup, p_gsub, p_cres, n_crT, n_cr2, takeOps, putOps, isOwnL, n_f1, atAll, Op.at, Rs.map_ok, n_bind, n_ap1, n_ap2, n_apL, Rs.bind_exc, Rs.bind_bad, n_of, Rs.of_none, Option.bind_some, Option.bind_none, Option.join_some, Option.map_some,
  List.getElem?_cons_zero, List.getElem?_cons_succ, List.getElem?_nil, List.set_cons_zero, List.set_cons_succ, List.length_cons, List.length_nil, T.toD, bl?_d, Nat.zero_lt_succ, Nat.succ_lt_succ_iff, if_true, if_false, reduceIte, reduceCtorEq, List.map_cons, List.map_nil, List.cons_append, List.nil_append, List.replicate_succ, List.replicate_zero, Nat.reduceAdd, Nat.reduceSub, Nat.reduceLT, Nat.reduceLeDiff, Nat.reduceEqDiff, bAdd_ii, bSub_ii, bMul_small, bMod_pos, bFdiv_pos, bPow_small, Int.reduceToNat, Int.reducePow, decide_eq_true_eq, decide_true, decide_false, bLt_ii, bGe_ii, bGt_ii, bLe_ii, bEq_ii, bNe_ii, bInt_i, bLen_l, bLen_d, bLen_ro, bLen_t, bList_l, bList_d, bList_ro, bList_t, bTuple_l, bTuple_d, bTuple_t, uAppend_one, uInsert_one, uPopAt_one, outs, aHas, aNo, aOne, aOr, bIx_l, bIx_d, bIx_t, bIx_ro, bTru, atI_lit, ixN_lit, bSl_l, bSl_d, bSl_ro, isi_l, isi_d, isi_t, isi_i, isi_b, isi_s, isi_n, Rs.env_ok, fSeq_l, fSeq_d, fSeq_ro, fSeq_t, fZip_ll, fZip_ld, fZip_dl, fZip_dd, fZip_tt, fEnum_l, fEnum_d, bIsN_of, bNotN_of, isNon_i, isNon_b, isNon_s, isNon_l, isNon_t, isNon_n, Tn.any, Tn.sub, eq_self, Bool.or_self, Bool.and_self, Bool.or_false, ne_eq, not_true, not_false_eq_true, and_self, and_true, true_and, opsFree, List.all_cons, List.all_nil, bEq_bb, bEq_ss, bNe_bb, bNe_ss, Bool.and_true, Bool.not_true, Bool.not_false, Bool.false_eq_true, List.any_cons, List.any_nil, Nat.reduceBEq, Bool.or_false, Bool.or_true, Bool.false_or, Bool.true_and, Bool.false_and, wipeE, unwipeE, e1, e2, c3, e3, la, ds, show ¬ ((2 : Int) = 0) by decide, show ¬ ((2 : Int) = 1) by decide]
theorem num_c3 {k i many size : Nat} {b : List D} {g : Bool} {rows : List Row} (hb : BagOk k b) (hk : k + 200 < 2 ^ 39) (hi : rows.length = i) (him : i < many) (hm : many ≤ 7) (hs : size ≤ 7) (G : Gr size (71 * (i + 1)) rows) (o5 o6 o7 o8 o9 o10 : Option T) (w : Int) (b1 : List D) (e1 : m__law_draw [.l b, .d (.int 8)] = .ok (.d (.int w)) [some (.l b1), some (.d (.int 8))]) (h1 : BagOk (k + 1) b1) (c0 : ¬ (w = 0 ∧ 1 < i)) (c1 : ¬ (w = 1 ∧ 0 < i)) (c2 : ¬ w = 2) :
    ∃ b' r p6 p7 p8 p9 p10, stepF (gN 5) b__law_numbers_2 (.int (i : Int)) (nE b many size g rows o5 o6 o7 o8 o9 o10) = .ok .nx (nE b' many size g (rows ++ [r]) (some (.d (.int (i : Int)))) p6 p7 p8 p9 p10) ∧ BagOk (k + 50) b' ∧ r.length = size ∧ ∀ x ∈ r, x.natAbs ≤ 2 ^ (71 * (i + 2)) := by
  have la : (dM rows).length < sizeLine := by rw [dM_len, sizeLine_val]; omega
  have up : 71 * (i + 1) + 71 = 71 * (i + 2) := by omega
  have t0 : (mAndT (mB (mOp2 bEq (mPk 6) (mDO (mC (.int 0))))) (mB (mOp2 bGt (mPk 5) (mDO (mC (.int 1)))))) (nE b1 many size g rows (some (.d (.int (i : Int)))) (some (.d (.int w))) o7 o8 o9 o10) = .ok false (nE b1 many size g rows (some (.d (.int (i : Int)))) (some (.d (.int w))) o7 o8 o9 o10) := by
    unfold nE
    by_cases h : w = 0
    · have : ¬ (1 : Int) < (i : Int) := by omega
      simp only [p_stepC, p_stepF, p_seq, p_asg, p_drop, p_ret, p_pass, p_break, p_cont, p_ifs, p_if, p_de, p_ed, p_eo, p_do, p_use, p_move, p_pk, p_c, p_op2, p_op1, p_b, p_andT, p_orT, p_notT, p_tru, p_andV, p_orV, p_notV, p_aug, p_par, p_lst, p_tup, p_upd, p_isN, p_notN, p_isi, p_sl, p_inone, p_isome, p_cb, p_call, p_callk, p_anil, p_acons, p_dnil, p_dcons, p_enil, p_econs, p_yes, p_gn, p_gnil, p_gcons, p_gtup, p_gsub, p_cres, n_crT, n_cr2, takeOps, putOps, isOwnL, n_f1, atAll, Op.at, Rs.map_ok, n_bind, n_ap1, n_ap2, n_apL, Rs.bind_exc, Rs.bind_bad, n_of, Rs.of_none, Option.bind_some, Option.bind_none, Option.join_some, Option.map_some,
  List.getElem?_cons_zero, List.getElem?_cons_succ, List.getElem?_nil, List.set_cons_zero, List.set_cons_succ, List.length_cons, List.length_nil, T.toD, bl?_d, Nat.zero_lt_succ, Nat.succ_lt_succ_iff, if_true, if_false, reduceIte, reduceCtorEq, List.map_cons, List.map_nil, List.cons_append, List.nil_append, List.replicate_succ, List.replicate_zero, Nat.reduceAdd, Nat.reduceSub, Nat.reduceLT, Nat.reduceLeDiff, Nat.reduceEqDiff, bAdd_ii, bSub_ii, bMul_small, bMod_pos, bFdiv_pos, bPow_small, Int.reduceToNat, Int.reducePow, decide_eq_true_eq, decide_true, decide_false, bLt_ii, bGe_ii, bGt_ii, bLe_ii, bEq_ii, bNe_ii, bInt_i, bLen_l, bLen_d, bLen_ro, bLen_t, bList_l, bList_d, bList_ro, bList_t, bTuple_l, bTuple_d, bTuple_t, uAppend_one, uInsert_one, uPopAt_one, outs, aHas, aNo, aOne, aOr, bIx_l, bIx_d, bIx_t, bIx_ro, bTru, atI_lit, ixN_lit, bSl_l, bSl_d, bSl_ro, isi_l, isi_d, isi_t, isi_i, isi_b, isi_s, isi_n, Rs.env_ok, fSeq_l, fSeq_d, fSeq_ro, fSeq_t, fZip_ll, fZip_ld, fZip_dl, fZip_dd, fZip_tt, fEnum_l, fEnum_d, bIsN_of, bNotN_of, isNon_i, isNon_b, isNon_s, isNon_l, isNon_t, isNon_n, Tn.any, Tn.sub, eq_self, Bool.or_self, Bool.and_self, Bool.or_false, ne_eq, not_true, not_false_eq_true, and_self, and_true, true_and, opsFree, List.all_cons, List.all_nil, bEq_bb, bEq_ss, bNe_bb, bNe_ss, Bool.and_true, Bool.not_true, Bool.not_false, Bool.false_eq_true, List.any_cons, List.any_nil, Nat.reduceBEq, Bool.or_false, Bool.or_true, Bool.false_or, Bool.true_and, Bool.false_and, wipeE, unwipeE, h, this]
    · simp only [p_stepC, p_stepF, p_seq, p_asg, p_drop, p_ret, p_pass, p_break, p_cont, p_ifs, p_if, p_de, p_ed, p_eo, p_do, p_use, p_move, p_pk, p_c, p_op2, p_op1, p_b, p_andT, p_orT, p_notT, p_tru, p_andV, p_orV, p_notV, p_aug, p_par, p_lst, p_tup, p_upd, p_isN, p_notN, p_isi, p_sl, p_inone, p_isome, p_cb, p_call, p_callk, p_anil, p_acons, p_dnil, p_dcons, p_enil, p_econs, p_yes, p_gn, p_gnil, p_gcons, p_gtup, p_gsub, p_cres, n_crT, n_cr2, takeOps, putOps, isOwnL, n_f1, atAll, Op.at, Rs.map_ok, n_bind, n_ap1, n_ap2, n_apL, Rs.bind_exc, Rs.bind_bad, n_of, Rs.of_none, Option.bind_some, Option.bind_none, Option.join_some, Option.map_some,
  List.getElem?_cons_zero, List.getElem?_cons_succ, List.getElem?_nil, List.set_cons_zero, List.set_cons_succ, List.length_cons, List.length_nil, T.toD, bl?_d, Nat.zero_lt_succ, Nat.succ_lt_succ_iff, if_true, if_false, reduceIte, reduceCtorEq, List.map_cons, List.map_nil, List.cons_append, List.nil_append, List.replicate_succ, List.replicate_zero, Nat.reduceAdd, Nat.reduceSub, Nat.reduceLT, Nat.reduceLeDiff, Nat.reduceEqDiff, bAdd_ii, bSub_ii, bMul_small, bMod_pos, bFdiv_pos, bPow_small, Int.reduceToNat, Int.reducePow, decide_eq_true_eq, decide_true, decide_false, bLt_ii, bGe_ii, bGt_ii, bLe_ii, bEq_ii, bNe_ii, bInt_i, bLen_l, bLen_d, bLen_ro, bLen_t, bList_l, bList_d, bList_ro, bList_t, bTuple_l, bTuple_d, bTuple_t, uAppend_one, uInsert_one, uPopAt_one, outs, aHas, aNo, aOne, aOr, bIx_l, bIx_d, bIx_t, bIx_ro, bTru, atI_lit, ixN_lit, bSl_l, bSl_d, bSl_ro, isi_l, isi_d, isi_t, isi_i, isi_b, isi_s, isi_n, Rs.env_ok, fSeq_l, fSeq_d, fSeq_ro, fSeq_t, fZip_ll, fZip_ld, fZip_dl, fZip_dd, fZip_tt, fEnum_l, fEnum_d, bIsN_of, bNotN_of, isNon_i, isNon_b, isNon_s, isNon_l, isNon_t, isNon_n, Tn.any, Tn.sub, eq_self, Bool.or_self, Bool.and_self, Bool.or_false, ne_eq, not_true, not_false_eq_true, and_self, and_true, true_and, opsFree, List.all_cons, List.all_nil, bEq_bb, bEq_ss, bNe_bb, bNe_ss, Bool.and_true, Bool.not_true, Bool.not_false, Bool.false_eq_true, List.any_cons, List.any_nil, Nat.reduceBEq, Bool.or_false, Bool.or_true, Bool.false_or, Bool.true_and, Bool.false_and, wipeE, unwipeE, h]
  have b2 : 2 ^ 70 ≤ 2 ^ (71 * (i + 2)) := Nat.pow_le_pow_right (by decide) (by omega)
  have t1 : (mAndT (mB (mOp2 bEq (mPk 6) (mDO (mC (.int 1))))) (mB (mOp2 bGt (mPk 5) (mDO (mC (.int 0)))))) (nE b1 many size g rows (some (.d (.int (i : Int)))) (some (.d (.int w))) o7 o8 o9 o10) = .ok false (nE b1 many size g rows (some (.d (.int (i : Int)))) (some (.d (.int w))) o7 o8 o9 o10) := by
    unfold nE
    by_cases h : w = 1
    · have : ¬ (0 : Int) < (i : Int) := by omega
      simp only [p_stepC, p_stepF, p_seq, p_asg, p_drop, p_ret, p_pass, p_break, p_cont, p_ifs, p_if, p_de, p_ed, p_eo, p_do, p_use, p_move, p_pk, p_c, p_op2, p_op1, p_b, p_andT, p_orT, p_notT, p_tru, p_andV, p_orV, p_notV, p_aug, p_par, p_lst, p_tup, p_upd, p_isN, p_notN, p_isi, p_sl, p_inone, p_isome, p_cb, p_call, p_callk, p_anil, p_acons, p_dnil, p_dcons, p_enil, p_econs, p_yes, p_gn, p_gnil, p_gcons, p_gtup, p_gsub, p_cres, n_crT, n_cr2, takeOps, putOps, isOwnL, n_f1, atAll, Op.at, Rs.map_ok, n_bind, n_ap1, n_ap2, n_apL, Rs.bind_exc, Rs.bind_bad, n_of, Rs.of_none, Option.bind_some, Option.bind_none, Option.join_some, Option.map_some,
  List.getElem?_cons_zero, List.getElem?_cons_succ, List.getElem?_nil, List.set_cons_zero, List.set_cons_succ, List.length_cons, List.length_nil, T.toD, bl?_d, Nat.zero_lt_succ, Nat.succ_lt_succ_iff, if_true, if_false, reduceIte, reduceCtorEq, List.map_cons, List.map_nil, List.cons_append, List.nil_append, List.replicate_succ, List.replicate_zero, Nat.reduceAdd, Nat.reduceSub, Nat.reduceLT, Nat.reduceLeDiff, Nat.reduceEqDiff, bAdd_ii, bSub_ii, bMul_small, bMod_pos, bFdiv_pos, bPow_small, Int.reduceToNat, Int.reducePow, decide_eq_true_eq, decide_true, decide_false, bLt_ii, bGe_ii, bGt_ii, bLe_ii, bEq_ii, bNe_ii, bInt_i, bLen_l, bLen_d, bLen_ro, bLen_t, bList_l, bList_d, bList_ro, bList_t, bTuple_l, bTuple_d, bTuple_t, uAppend_one, uInsert_one, uPopAt_one, outs, aHas, aNo, aOne, aOr, bIx_l, bIx_d, bIx_t, bIx_ro, bTru, atI_lit, ixN_lit, bSl_l, bSl_d, bSl_ro, isi_l, isi_d, isi_t, isi_i, isi_b, isi_s, isi_n, Rs.env_ok, fSeq_l, fSeq_d, fSeq_ro, fSeq_t, fZip_ll, fZip_ld, fZip_dl, fZip_dd, fZip_tt, fEnum_l, fEnum_d, bIsN_of, bNotN_of, isNon_i, isNon_b, isNon_s, isNon_l, isNon_t, isNon_n, Tn.any, Tn.sub, eq_self, Bool.or_self, Bool.and_self, Bool.or_false, ne_eq, not_true, not_false_eq_true, and_self, and_true, true_and, opsFree, List.all_cons, List.all_nil, bEq_bb, bEq_ss, bNe_bb, bNe_ss, Bool.and_true, Bool.not_true, Bool.not_false, Bool.false_eq_true, List.any_cons, List.any_nil, Nat.reduceBEq, Bool.or_false, Bool.or_true, Bool.false_or, Bool.true_and, Bool.false_and, wipeE, unwipeE, h, this]
    · simp only [p_stepC, p_stepF, p_seq, p_asg, p_drop, p_ret, p_pass, p_break, p_cont, p_ifs, p_if, p_de, p_ed, p_eo, p_do, p_use, p_move, p_pk, p_c, p_op2, p_op1, p_b, p_andT, p_orT, p_notT, p_tru, p_andV, p_orV, p_notV, p_aug, p_par, p_lst, p_tup, p_upd, p_isN, p_notN, p_isi, p_sl, p_inone, p_isome, p_cb, p_call, p_callk, p_anil, p_acons, p_dnil, p_dcons, p_enil, p_econs, p_yes, p_gn, p_gnil, p_gcons, p_gtup, p_gsub, p_cres, n_crT, n_cr2, takeOps, putOps, isOwnL, n_f1, atAll, Op.at, Rs.map_ok, n_bind, n_ap1, n_ap2, n_apL, Rs.bind_exc, Rs.bind_bad, n_of, Rs.of_none, Option.bind_some, Option.bind_none, Option.join_some, Option.map_some,
  List.getElem?_cons_zero, List.getElem?_cons_succ, List.getElem?_nil, List.set_cons_zero, List.set_cons_succ, List.length_cons, List.length_nil, T.toD, bl?_d, Nat.zero_lt_succ, Nat.succ_lt_succ_iff, if_true, if_false, reduceIte, reduceCtorEq, List.map_cons, List.map_nil, List.cons_append, List.nil_append, List.replicate_succ, List.replicate_zero, Nat.reduceAdd, Nat.reduceSub, Nat.reduceLT, Nat.reduceLeDiff, Nat.reduceEqDiff, bAdd_ii, bSub_ii, bMul_small, bMod_pos, bFdiv_pos, bPow_small, Int.reduceToNat, Int.reducePow, decide_eq_true_eq, decide_true, decide_false, bLt_ii, bGe_ii, bGt_ii, bLe_ii, bEq_ii, bNe_ii, bInt_i, bLen_l, bLen_d, bLen_ro, bLen_t, bList_l, bList_d, bList_ro, bList_t, bTuple_l, bTuple_d, bTuple_t, uAppend_one, uInsert_one, uPopAt_one, outs, aHas, aNo, aOne, aOr, bIx_l, bIx_d, bIx_t, bIx_ro, bTru, atI_lit, ixN_lit, bSl_l, bSl_d, bSl_ro, isi_l, isi_d, isi_t, isi_i, isi_b, isi_s, isi_n, Rs.env_ok, fSeq_l, fSeq_d, fSeq_ro, fSeq_t, fZip_ll, fZip_ld, fZip_dl, fZip_dd, fZip_tt, fEnum_l, fEnum_d, bIsN_of, bNotN_of, isNon_i, isNon_b, isNon_s, isNon_l, isNon_t, isNon_n, Tn.any, Tn.sub, eq_self, Bool.or_self, Bool.and_self, Bool.or_false, ne_eq, not_true, not_false_eq_true, and_self, and_true, true_and, opsFree, List.all_cons, List.all_nil, bEq_bb, bEq_ss, bNe_bb, bNe_ss, Bool.and_true, Bool.not_true, Bool.not_false, Bool.false_eq_true, List.any_cons, List.any_nil, Nat.reduceBEq, Bool.or_false, Bool.or_true, Bool.false_or, Bool.true_and, Bool.false_and, wipeE, unwipeE, h]
  obtain ⟨b4, vs, e3, h7, h8, h9⟩ := nums_go (many := many) (size := size) (g := g) h1 (by omega) hs (some (.l (dM rows))) (some (.d (.int (i : Int)))) (some (.d (.int w))) o7 o8 o9 o10
  refine ⟨b4, vs, some (.d (.int w)), o7, o8, o9, o10, ?_, h7.mono (by omega), h8, fun x hx => Nat.le_trans (h9 x hx) b2⟩
  have ds := dM_snoc rows vs
  have g5 : stepF (gN 5) b__law_numbers_2 (.int (i : Int)) (nE b many size g rows o5 o6 o7 o8 o9 o10) = q__law_numbers_1 (nE b1 many size g rows (some (.d (.int (i : Int)))) (some (.d (.int w))) o7 o8 o9 o10) := by
    have g6 : gN 5 (.d (.int (i : Int))) (nE b many size g rows o5 o6 o7 o8 o9 o10) = .ok () (nE b many size g rows (some (.d (.int (i : Int)))) o6 o7 o8 o9 o10) := by unfold nE; simp only [p_stepC, p_stepF, p_seq, p_asg, p_drop, p_ret, p_pass, p_break, p_cont, p_ifs, p_if, p_de, p_ed, p_eo, p_do, p_use, p_move, p_pk, p_c, p_op2, p_op1, p_b, p_andT, p_orT, p_notT, p_tru, p_andV, p_orV, p_notV, p_aug, p_par, p_lst, p_tup, p_upd, p_isN, p_notN, p_isi, p_sl, p_inone, p_isome, p_cb, p_call, p_callk, p_anil, p_acons, p_dnil, p_dcons, p_enil, p_econs, p_yes, p_gn, p_gnil, p_gcons, p_gtup, p_gsub, p_cres, n_crT, n_cr2, takeOps, putOps, isOwnL, n_f1, atAll, Op.at, Rs.map_ok, n_bind, n_ap1, n_ap2, n_apL, Rs.bind_exc, Rs.bind_bad, n_of, Rs.of_none, Option.bind_some, Option.bind_none, Option.join_some, Option.map_some,
  List.getElem?_cons_zero, List.getElem?_cons_succ, List.getElem?_nil, List.set_cons_zero, List.set_cons_succ, List.length_cons, List.length_nil, T.toD, bl?_d, Nat.zero_lt_succ, Nat.succ_lt_succ_iff, if_true, if_false, reduceIte, reduceCtorEq, List.map_cons, List.map_nil, List.cons_append, List.nil_append, List.replicate_succ, List.replicate_zero, Nat.reduceAdd, Nat.reduceSub, Nat.reduceLT, Nat.reduceLeDiff, Nat.reduceEqDiff, bAdd_ii, bSub_ii, bMul_small, bMod_pos, bFdiv_pos, bPow_small, Int.reduceToNat, Int.reducePow, decide_eq_true_eq, decide_true, decide_false, bLt_ii, bGe_ii, bGt_ii, bLe_ii, bEq_ii, bNe_ii, bInt_i, bLen_l, bLen_d, bLen_ro, bLen_t, bList_l, bList_d, bList_ro, bList_t, bTuple_l, bTuple_d, bTuple_t, uAppend_one, uInsert_one, uPopAt_one, outs, aHas, aNo, aOne, aOr, bIx_l, bIx_d, bIx_t, bIx_ro, bTru, atI_lit, ixN_lit, bSl_l, bSl_d, bSl_ro, isi_l, isi_d, isi_t, isi_i, isi_b, isi_s, isi_n, Rs.env_ok, fSeq_l, fSeq_d, fSeq_ro, fSeq_t, fZip_ll, fZip_ld, fZip_dl, fZip_dd, fZip_tt, fEnum_l, fEnum_d, bIsN_of, bNotN_of, isNon_i, isNon_b, isNon_s, isNon_l, isNon_t, isNon_n, Tn.any, Tn.sub, eq_self, Bool.or_self, Bool.and_self, Bool.or_false, ne_eq, not_true, not_false_eq_true, and_self, and_true, true_and, opsFree, List.all_cons, List.all_nil, bEq_bb, bEq_ss, bNe_bb, bNe_ss, Bool.and_true, Bool.not_true, Bool.not_false, Bool.false_eq_true, List.any_cons, List.any_nil, Nat.reduceBEq, Bool.or_false, Bool.or_true, Bool.false_or, Bool.true_and, Bool.false_and, wipeE, unwipeE]
    have g7 : q__law_numbers_0 (nE b many size g rows (some (.d (.int (i : Int)))) o6 o7 o8 o9 o10) = .ok .nx (nE b1 many size g rows (some (.d (.int (i : Int)))) (some (.d (.int w))) o7 o8 o9 o10) := by unfold nE q__law_numbers_0; simp only [p_stepC, p_stepF, p_seq, p_asg, p_drop, p_ret, p_pass, p_break, p_cont, p_ifs, p_if, p_de, p_ed, p_eo, p_do, p_use, p_move, p_pk, p_c, p_op2, p_op1, p_b, p_andT, p_orT, p_notT, p_tru, p_andV, p_orV, p_notV, p_aug, p_par, p_lst, p_tup, p_upd, p_isN, p_notN, p_isi, p_sl, p_inone, p_isome, p_cb, p_call, p_callk, p_anil, p_acons, p_dnil, p_dcons, p_enil, p_econs, p_yes, p_gn, p_gnil, p_gcons, p_gtup, p_gsub, p_cres, n_crT, n_cr2, takeOps, putOps, isOwnL, n_f1, atAll, Op.at, Rs.map_ok, n_bind, n_ap1, n_ap2, n_apL, Rs.bind_exc, Rs.bind_bad, n_of, Rs.of_none, Option.bind_some, Option.bind_none, Option.join_some, Option.map_some,
  List.getElem?_cons_zero, List.getElem?_cons_succ, List.getElem?_nil, List.set_cons_zero, List.set_cons_succ, List.length_cons, List.length_nil, T.toD, bl?_d, Nat.zero_lt_succ, Nat.succ_lt_succ_iff, if_true, if_false, reduceIte, reduceCtorEq, List.map_cons, List.map_nil, List.cons_append, List.nil_append, List.replicate_succ, List.replicate_zero, Nat.reduceAdd, Nat.reduceSub, Nat.reduceLT, Nat.reduceLeDiff, Nat.reduceEqDiff, bAdd_ii, bSub_ii, bMul_small, bMod_pos, bFdiv_pos, bPow_small, Int.reduceToNat, Int.reducePow, decide_eq_true_eq, decide_true, decide_false, bLt_ii, bGe_ii, bGt_ii, bLe_ii, bEq_ii, bNe_ii, bInt_i, bLen_l, bLen_d, bLen_ro, bLen_t, bList_l, bList_d, bList_ro, bList_t, bTuple_l, bTuple_d, bTuple_t, uAppend_one, uInsert_one, uPopAt_one, outs, aHas, aNo, aOne, aOr, bIx_l, bIx_d, bIx_t, bIx_ro, bTru, atI_lit, ixN_lit, bSl_l, bSl_d, bSl_ro, isi_l, isi_d, isi_t, isi_i, isi_b, isi_s, isi_n, Rs.env_ok, fSeq_l, fSeq_d, fSeq_ro, fSeq_t, fZip_ll, fZip_ld, fZip_dl, fZip_dd, fZip_tt, fEnum_l, fEnum_d, bIsN_of, bNotN_of, isNon_i, isNon_b, isNon_s, isNon_l, isNon_t, isNon_n, Tn.any, Tn.sub, eq_self, Bool.or_self, Bool.and_self, Bool.or_false, ne_eq, not_true, not_false_eq_true, and_self, and_true, true_and, opsFree, List.all_cons, List.all_nil, bEq_bb, bEq_ss, bNe_bb, bNe_ss, Bool.and_true, Bool.not_true, Bool.not_false, Bool.false_eq_true, List.any_cons, List.any_nil, Nat.reduceBEq, Bool.or_false, Bool.or_true, Bool.false_or, Bool.true_and, Bool.false_and, wipeE, unwipeE, e1]
    rw [p_stepF, g6, Rs.bind_ok]
    unfold b__law_numbers_2
    exact seq_nx g7
  rw [g5]
  unfold q__law_numbers_1
  generalize (mComp [13] fR1 (aCons (mPk 2) aNil) (gN 13) mYes (mED (mCall m__law_number (aCons (mPk 0) (aCons (mPk 3) aNil))))) = Q at e3 ⊢
  rw [p_ifs, t0, Rs.bind_ok, if_neg (by decide), p_ifs, t1, Rs.bind_ok, if_neg (by decide)]
  unfold nE at *
  unfold dR at *
  simp only [p_stepC, p_stepF, p_seq, p_asg, p_drop, p_ret, p_pass, p_break, p_cont, p_ifs, p_if, p_de, p_ed, p_eo, p_do, p_use, p_move, p_pk, p_c, p_op2, p_op1, p_b, p_andT, p_orT, p_notT, p_tru, p_andV, p_orV, p_notV, p_aug, p_par, p_lst, p_tup, p_upd, p_isN, p_notN, p_isi, p_sl, p_inone, p_isome, p_cb, p_call, p_callk, p_anil, p_acons, p_dnil, p_dcons, p_enil, p_econs, p_yes, p_gn, p_gnil, p_gcons, p_gtup, p_gsub, p_cres, n_crT, n_cr2, takeOps, putOps, isOwnL, n_f1, atAll, Op.at, Rs.map_ok, n_bind, n_ap1, n_ap2, n_apL, Rs.bind_exc, Rs.bind_bad, n_of, Rs.of_none, Option.bind_some, Option.bind_none, Option.join_some, Option.map_some,
  List.getElem?_cons_zero, List.getElem?_cons_succ, List.getElem?_nil, List.set_cons_zero, List.set_cons_succ, List.length_cons, List.length_nil, T.toD, bl?_d, Nat.zero_lt_succ, Nat.succ_lt_succ_iff, if_true, if_false, reduceIte, reduceCtorEq, List.map_cons, List.map_nil, List.cons_append, List.nil_append, List.replicate_succ, List.replicate_zero, Nat.reduceAdd, Nat.reduceSub, Nat.reduceLT, Nat.reduceLeDiff, Nat.reduceEqDiff, bAdd_ii, bSub_ii, bMul_small, bMod_pos, bFdiv_pos, bPow_small, Int.reduceToNat, Int.reducePow, decide_eq_true_eq, decide_true, decide_false, bLt_ii, bGe_ii, bGt_ii, bLe_ii, bEq_ii, bNe_ii, bInt_i, bLen_l, bLen_d, bLen_ro, bLen_t, bList_l, bList_d, bList_ro, bList_t, bTuple_l, bTuple_d, bTuple_t, uAppend_one, uInsert_one, uPopAt_one, outs, aHas, aNo, aOne, aOr, bIx_l, bIx_d, bIx_t, bIx_ro, bTru, atI_lit, ixN_lit, bSl_l, bSl_d, bSl_ro, isi_l, isi_d, isi_t, isi_i, isi_b, isi_s, isi_n, Rs.env_ok, fSeq_l, fSeq_d, fSeq_ro, fSeq_t, fZip_ll, fZip_ld, fZip_dl, fZip_dd, fZip_tt, fEnum_l, fEnum_d, bIsN_of, bNotN_of, isNon_i, isNon_b, isNon_s, isNon_l, isNon_t, isNon_n, Tn.any, Tn.sub, eq_self, Bool.or_self, Bool.and_self, Bool.or_false, ne_eq, not_true, not_false_eq_true, and_self, and_true, true_and, opsFree, List.all_cons, List.all_nil, bEq_bb, bEq_ss, bNe_bb, bNe_ss, Bool.and_true, Bool.not_true, Bool.not_false, Bool.false_eq_true, List.any_cons, List.any_nil, Nat.reduceBEq, Bool.or_false, Bool.or_true, Bool.false_or, Bool.true_and, Bool.false_and, wipeE, unwipeE, c2, e3, la, ds]
theorem num_body {k i many size : Nat} {b : List D} {g : Bool} {rows : List Row} (hb : BagOk k b) (hk : k + 200 < 2 ^ 39) (hi : rows.length = i) (him : i < many) (hm : many ≤ 7) (hs : size ≤ 7) (G : Gr size (71 * (i + 1)) rows) (o5 o6 o7 o8 o9 o10 : Option T) :
    ∃ b' r p6 p7 p8 p9 p10, stepF (gN 5) b__law_numbers_2 (.int (i : Int)) (nE b many size g rows o5 o6 o7 o8 o9 o10) = .ok .nx (nE b' many size g (rows ++ [r]) (some (.d (.int (i : Int)))) p6 p7 p8 p9 p10) ∧ BagOk (k + 50) b' ∧ r.length = size ∧ ∀ x ∈ r, x.natAbs ≤ 2 ^ (71 * (i + 2)) := by
  obtain ⟨b1, w, e1, h1, h2, h3⟩ := draw_ok (s := 8) hb (by omega) (by omega) (by omega)
  by_cases c0 : w = 0 ∧ 1 < i
  · exact num_c0 hb hk hi him hm hs G o5 o6 o7 o8 o9 o10 w b1 e1 h1 c0
  · by_cases c1 : w = 1 ∧ 0 < i
    · exact num_c1 hb hk hi him hm hs G o5 o6 o7 o8 o9 o10 w b1 e1 h1 c0 c1
    · by_cases c2 : w = 2
      · obtain ⟨b3, v, e2, h4, h5, h6⟩ := draw_ok (s := 3) h1 (by omega) (by omega) (by omega)
        by_cases c3 : v = 0
        · exact num_c2z hb hk hi him hm hs G o5 o6 o7 o8 o9 o10 w b1 e1 h1 c2 v b3 e2 h4 c3
        · exact num_c2n hb hk hi him hm hs G o5 o6 o7 o8 o9 o10 w b1 e1 h1 c2 v b3 e2 h4 c3
      · exact num_c3 hb hk hi him hm hs G o5 o6 o7 o8 o9 o10 w b1 e1 h1 c0 c1 c2
end NS
namespace NS
open PySem L2 LA
theorem of_dM {ys : List D} {rows : List Row} (h : ∀ y ∈ ys, y ∈ dM rows) : ∃ rs : List Row, ys = dM rs ∧ ∀ r ∈ rs, r ∈ rows := by
  induction ys with
  | nil => exact ⟨[], rfl, fun _ h => (List.not_mem_nil h).elim⟩
  | cons y ys ih =>
    obtain ⟨rs, e, h2⟩ := ih fun y hy => h y (List.mem_cons_of_mem _ hy)
    have h3 := h y List.mem_cons_self
    unfold dM at h3
    obtain ⟨r, hr, rfl⟩ := List.mem_map.mp h3
    exact ⟨r :: rs, by rw [e]; rfl, fun r' hr' => by
      rcases List.mem_cons.mp hr' with rfl | h
      · exact hr
      · exact h2 r' h⟩
def zAt (r : Row) (p : Nat) : Row := r.take p ++ [0] ++ r.drop (p + 1)
theorem zAt_len {r : Row} {p : Nat} (h : p < r.length) : (zAt r p).length = r.length := by unfold zAt; simp; omega
theorem zAt_abs {r : Row} {p B : Nat} (h : ∀ x ∈ r, x.natAbs ≤ B) : ∀ x ∈ zAt r p, x.natAbs ≤ B := fun x hx => by
  unfold zAt at hx
  rcases List.mem_append.mp hx with h1 | h1
  · rcases List.mem_append.mp h1 with h2 | h2
    · exact h x (List.mem_of_mem_take h2)
    · rw [List.mem_singleton.mp h2]; exact Nat.zero_le B
  · exact h x (List.mem_of_mem_drop h1)
theorem zAt_go {rows : List Row} {p n : Nat} (hr : ∀ r ∈ rows, r.length = n) (hn : n ≤ 7) (hl : rows.length ≤ 7) (b m s g o5 o6 o7 o8 o9 o10 : Option T) :
    compGo [15] (gN 15) mYes (mED (mOp2 bAdd (mEO (mOp2 bAdd (mEO (mSl (mPk 15) iNone (iSome (mUse 14)))) (mEO (mLst (dCons (mC (.int 0)) dNil))))) (mEO (mSl (mPk 15) (iSome (mED (mOp2 bAdd (mPk 14) (mDO (mC (.int 1)))))) iNone)))) (dM rows) [b, m, s, g, none, o5, o6, o7, o8, o9, o10, none, none, none, some (.d (.int (p : Int))), none] [] = .ok (dM (rows.map fun r => zAt r p)) [b, m, s, g, none, o5, o6, o7, o8, o9, o10, none, none, none, some (.d (.int (p : Int))), none] := by
  refine (comp_mapW dR (fun r => some (dR (zAt r p))) rows [] (fun r hr' => ?_) (by rw [sizeLine_val]; simp only [List.length_nil]; omega)).trans (by rw [List.nil_append, filterMap_all]; unfold dM; rw [List.map_map]; rfl)
  have hlen := hr r hr'
  have c1 : cutD (r.map D.int) none (some (p : Int)) = (r.take p).map D.int := by rw [cut_to (by omega), Int.toNat_natCast, List.map_take]
  have c2 : cutD (r.map D.int) (some ((p : Int) + 1)) none = (r.drop (p + 1)).map D.int := by rw [cut_from (by omega), show ((p : Int) + 1).toNat = p + 1 by omega, List.map_drop]
  have l1 : ((r.take p).map D.int).length + [D.int 0].length ≤ sizeLine := by rw [List.length_map, List.length_take, sizeLine_val]; simp only [List.length_cons, List.length_nil]; omega
  have l2 : ((r.take p).map D.int ++ [D.int 0]).length + ((r.drop (p + 1)).map D.int).length ≤ sizeLine := by
    rw [List.length_append, List.length_map, List.length_map, List.length_take, List.length_drop, sizeLine_val]; simp only [List.length_cons, List.length_nil]; omega
  have l0 : 0 + 1 ≤ sizeLine := by rw [sizeLine_val]; omega
  have e1 : bAdd (.l ((r.take p).map D.int)) (.l [.int 0]) = some (.l ((r.take p).map D.int ++ [D.int 0])) := by rw [bAdd_ll, if_pos l1]
  have e2 : bAdd (.l ((r.take p).map D.int ++ [D.int 0])) (.l ((r.drop (p + 1)).map D.int)) = some (.l ((zAt r p).map D.int)) := by
    rw [bAdd_ll, if_pos l2]; unfold zAt; simp
  unfold dR
  simp only [p_stepC, p_stepF, p_seq, p_asg, p_drop, p_ret, p_pass, p_break, p_cont, p_ifs, p_if, p_de, p_ed, p_eo, p_do, p_use, p_move, p_pk, p_c, p_op2, p_op1, p_b, p_andT, p_orT, p_notT, p_tru, p_andV, p_orV, p_notV, p_aug, p_par, p_lst, p_tup, p_upd, p_isN, p_notN, p_isi, p_sl, p_inone, p_isome, p_cb, p_call, p_callk, p_anil, p_acons, p_dnil, p_dcons, p_enil, p_econs, p_yes, p_gn, p_gnil, p_gcons, p_gtup, p_gsub, p_cres, n_crT, n_cr2, takeOps, putOps, isOwnL, n_f1, atAll, Op.at, Rs.map_ok, n_bind, n_ap1, n_ap2, n_apL, Rs.bind_exc, Rs.bind_bad, n_of, Rs.of_none, Option.bind_some, Option.bind_none, Option.join_some, Option.map_some,
  List.getElem?_cons_zero, List.getElem?_cons_succ, List.getElem?_nil, List.set_cons_zero, List.set_cons_succ, List.length_cons, List.length_nil, T.toD, bl?_d, Nat.zero_lt_succ, Nat.succ_lt_succ_iff, if_true, if_false, reduceIte, reduceCtorEq, List.map_cons, List.map_nil, List.cons_append, List.nil_append, List.replicate_succ, List.replicate_zero, Nat.reduceAdd, Nat.reduceSub, Nat.reduceLT, Nat.reduceLeDiff, Nat.reduceEqDiff, bAdd_ii, bSub_ii, bMul_small, bMod_pos, bFdiv_pos, bPow_small, Int.reduceToNat, Int.reducePow, decide_eq_true_eq, decide_true, decide_false, bLt_ii, bGe_ii, bGt_ii, bLe_ii, bEq_ii, bNe_ii, bInt_i, bLen_l, bLen_d, bLen_ro, bLen_t, bList_l, bList_d, bList_ro, bList_t, bTuple_l, bTuple_d, bTuple_t, uAppend_one, uInsert_one, uPopAt_one, outs, aHas, aNo, aOne, aOr, bIx_l, bIx_d, bIx_t, bIx_ro, bTru, atI_lit, ixN_lit, bSl_l, bSl_d, bSl_ro, isi_l, isi_d, isi_t, isi_i, isi_b, isi_s, isi_n, Rs.env_ok, fSeq_l, fSeq_d, fSeq_ro, fSeq_t, fZip_ll, fZip_ld, fZip_dl, fZip_dd, fZip_tt, fEnum_l, fEnum_d, bIsN_of, bNotN_of, isNon_i, isNon_b, isNon_s, isNon_l, isNon_t, isNon_n, Tn.any, Tn.sub, eq_self, Bool.or_self, Bool.and_self, Bool.or_false, ne_eq, not_true, not_false_eq_true, and_self, and_true, true_and, opsFree, List.all_cons, List.all_nil, bEq_bb, bEq_ss, bNe_bb, bNe_ss, Bool.and_true, Bool.not_true, Bool.not_false, Bool.false_eq_true, List.any_cons, List.any_nil, Nat.reduceBEq, Bool.or_false, Bool.or_true, Bool.false_or, Bool.true_and, Bool.false_and, wipeE, unwipeE, c1, c2, l0, e1, e2]
theorem numbers_ok {k many size : Nat} {b : List D} (hb : BagOk k b) (hk : k + 2000 < 2 ^ 39) (hm : many ≤ 7) (hs : size ≤ 7) : ∃ b' rows, m__law_numbers [.l b, .d (.int (many : Int)), .d (.int (size : Int))] = .ok (.d (.lst (dM rows))) [some (.l b'), some (.d (.int (many : Int))), some (.d (.int (size : Int)))] ∧ BagOk (k + 500) b' ∧ rows.length = many ∧ Gr size 700 rows := by
  obtain ⟨b1, v, e1, h1, h2, h3⟩ := draw_ok (s := 4) hb (by omega) (by omega) (by omega)
  have s1 : q__law_numbers_3 [some (.l b), some (.d (.int (many : Int))), some (.d (.int (size : Int))), none, none, none, none, none, none, none, none, none, none, none, none, none] = .ok .nx [some (.l b1), some (.d (.int (many : Int))), some (.d (.int (size : Int))), some (.d (.bl (decide (v = 0)))), none, none, none, none, none, none, none, none, none, none, none, none] := by
    unfold q__law_numbers_3
    simp only [p_stepC, p_stepF, p_seq, p_asg, p_drop, p_ret, p_pass, p_break, p_cont, p_ifs, p_if, p_de, p_ed, p_eo, p_do, p_use, p_move, p_pk, p_c, p_op2, p_op1, p_b, p_andT, p_orT, p_notT, p_tru, p_andV, p_orV, p_notV, p_aug, p_par, p_lst, p_tup, p_upd, p_isN, p_notN, p_isi, p_sl, p_inone, p_isome, p_cb, p_call, p_callk, p_anil, p_acons, p_dnil, p_dcons, p_enil, p_econs, p_yes, p_gn, p_gnil, p_gcons, p_gtup, p_gsub, p_cres, n_crT, n_cr2, takeOps, putOps, isOwnL, n_f1, atAll, Op.at, Rs.map_ok, n_bind, n_ap1, n_ap2, n_apL, Rs.bind_exc, Rs.bind_bad, n_of, Rs.of_none, Option.bind_some, Option.bind_none, Option.join_some, Option.map_some,
  List.getElem?_cons_zero, List.getElem?_cons_succ, List.getElem?_nil, List.set_cons_zero, List.set_cons_succ, List.length_cons, List.length_nil, T.toD, bl?_d, Nat.zero_lt_succ, Nat.succ_lt_succ_iff, if_true, if_false, reduceIte, reduceCtorEq, List.map_cons, List.map_nil, List.cons_append, List.nil_append, List.replicate_succ, List.replicate_zero, Nat.reduceAdd, Nat.reduceSub, Nat.reduceLT, Nat.reduceLeDiff, Nat.reduceEqDiff, bAdd_ii, bSub_ii, bMul_small, bMod_pos, bFdiv_pos, bPow_small, Int.reduceToNat, Int.reducePow, decide_eq_true_eq, decide_true, decide_false, bLt_ii, bGe_ii, bGt_ii, bLe_ii, bEq_ii, bNe_ii, bInt_i, bLen_l, bLen_d, bLen_ro, bLen_t, bList_l, bList_d, bList_ro, bList_t, bTuple_l, bTuple_d, bTuple_t, uAppend_one, uInsert_one, uPopAt_one, outs, aHas, aNo, aOne, aOr, bIx_l, bIx_d, bIx_t, bIx_ro, bTru, atI_lit, ixN_lit, bSl_l, bSl_d, bSl_ro, isi_l, isi_d, isi_t, isi_i, isi_b, isi_s, isi_n, Rs.env_ok, fSeq_l, fSeq_d, fSeq_ro, fSeq_t, fZip_ll, fZip_ld, fZip_dl, fZip_dd, fZip_tt, fEnum_l, fEnum_d, bIsN_of, bNotN_of, isNon_i, isNon_b, isNon_s, isNon_l, isNon_t, isNon_n, Tn.any, Tn.sub, eq_self, Bool.or_self, Bool.and_self, Bool.or_false, ne_eq, not_true, not_false_eq_true, and_self, and_true, true_and, opsFree, List.all_cons, List.all_nil, bEq_bb, bEq_ss, bNe_bb, bNe_ss, Bool.and_true, Bool.not_true, Bool.not_false, Bool.false_eq_true, List.any_cons, List.any_nil, Nat.reduceBEq, Bool.or_false, Bool.or_true, Bool.false_or, Bool.true_and, Bool.false_and, wipeE, unwipeE, e1]
  have s2 : (mAsg (mLst dNil) (gN 4)) [some (.l b1), some (.d (.int (many : Int))), some (.d (.int (size : Int))), some (.d (.bl (decide (v = 0)))), none, none, none, none, none, none, none, none, none, none, none, none] = .ok .nx (nE b1 many size (decide (v = 0)) [] none none none none none none) := by
    unfold nE
    simp only [p_stepC, p_stepF, p_seq, p_asg, p_drop, p_ret, p_pass, p_break, p_cont, p_ifs, p_if, p_de, p_ed, p_eo, p_do, p_use, p_move, p_pk, p_c, p_op2, p_op1, p_b, p_andT, p_orT, p_notT, p_tru, p_andV, p_orV, p_notV, p_aug, p_par, p_lst, p_tup, p_upd, p_isN, p_notN, p_isi, p_sl, p_inone, p_isome, p_cb, p_call, p_callk, p_anil, p_acons, p_dnil, p_dcons, p_enil, p_econs, p_yes, p_gn, p_gnil, p_gcons, p_gtup, p_gsub, p_cres, n_crT, n_cr2, takeOps, putOps, isOwnL, n_f1, atAll, Op.at, Rs.map_ok, n_bind, n_ap1, n_ap2, n_apL, Rs.bind_exc, Rs.bind_bad, n_of, Rs.of_none, Option.bind_some, Option.bind_none, Option.join_some, Option.map_some,
  List.getElem?_cons_zero, List.getElem?_cons_succ, List.getElem?_nil, List.set_cons_zero, List.set_cons_succ, List.length_cons, List.length_nil, T.toD, bl?_d, Nat.zero_lt_succ, Nat.succ_lt_succ_iff, if_true, if_false, reduceIte, reduceCtorEq, List.map_cons, List.map_nil, List.cons_append, List.nil_append, List.replicate_succ, List.replicate_zero, Nat.reduceAdd, Nat.reduceSub, Nat.reduceLT, Nat.reduceLeDiff, Nat.reduceEqDiff, bAdd_ii, bSub_ii, bMul_small, bMod_pos, bFdiv_pos, bPow_small, Int.reduceToNat, Int.reducePow, decide_eq_true_eq, decide_true, decide_false, bLt_ii, bGe_ii, bGt_ii, bLe_ii, bEq_ii, bNe_ii, bInt_i, bLen_l, bLen_d, bLen_ro, bLen_t, bList_l, bList_d, bList_ro, bList_t, bTuple_l, bTuple_d, bTuple_t, uAppend_one, uInsert_one, uPopAt_one, outs, aHas, aNo, aOne, aOr, bIx_l, bIx_d, bIx_t, bIx_ro, bTru, atI_lit, ixN_lit, bSl_l, bSl_d, bSl_ro, isi_l, isi_d, isi_t, isi_i, isi_b, isi_s, isi_n, Rs.env_ok, fSeq_l, fSeq_d, fSeq_ro, fSeq_t, fZip_ll, fZip_ld, fZip_dl, fZip_dd, fZip_tt, fEnum_l, fEnum_d, bIsN_of, bNotN_of, isNon_i, isNon_b, isNon_s, isNon_l, isNon_t, isNon_n, Tn.any, Tn.sub, eq_self, Bool.or_self, Bool.and_self, Bool.or_false, ne_eq, not_true, not_false_eq_true, and_self, and_true, true_and, opsFree, List.all_cons, List.all_nil, bEq_bb, bEq_ss, bNe_bb, bNe_ss, Bool.and_true, Bool.not_true, Bool.not_false, Bool.false_eq_true, List.any_cons, List.any_nil, Nat.reduceBEq, Bool.or_false, Bool.or_true, Bool.false_or, Bool.true_and, Bool.false_and, wipeE, unwipeE, sizeLine_val]
    rfl
  generalize decide (v = 0) = g at *
  obtain ⟨e', h4, b2, rows, o5, o6, o7, o8, o9, o10, rfl, h5, h6, h7⟩ := for_inv (g := gN 5) (b := b__law_numbers_2) (fun i env => ∃ b' rows o5 o6 o7 o8 o9 o10, env = nE b' many size g rows o5 o6 o7 o8 o9 o10 ∧ BagOk (k + 1 + 50 * i) b' ∧ rows.length = i ∧ Gr size (71 * (i + 1)) rows) (intsFrom 0 many) 0 _ ⟨b1, [], none, none, none, none, none, none, rfl, h1, rfl, ⟨fun _ h => (List.not_mem_nil h).elim, fun _ h => (List.not_mem_nil h).elim⟩⟩ (fun j d env hd ⟨b2, rows, o5, o6, o7, o8, o9, o10, he, h5, h6, h7⟩ => by
    subst he
    have hj : j < many ∧ d = .int (j : Int) := by rw [← rangeD_from] at hd; exact rangeD_at hd
    obtain ⟨hj, rfl⟩ := hj
    rw [Nat.zero_add] at h5 h6 h7 ⊢
    obtain ⟨b3, r, p6, p7, p8, p9, p10, k1, k2, k3, k4⟩ := num_body h5 (by omega) h6 hj hm hs h7 o5 o6 o7 o8 o9 o10
    exact ⟨_, k1, b3, rows ++ [r], _, _, _, _, _, _, rfl, k2.mono (by omega), by rw [List.length_append]; simp only [List.length_cons, List.length_nil]; omega, (h7.up (by omega)).add k3 k4⟩)
  have hl : (intsFrom 0 many).length = many := by unfold intsFrom; rw [List.length_map, List.length_range']
  rw [hl, Nat.zero_add] at h5 h6 h7
  have s3 : q__law_numbers_4 (nE b1 many size g [] none none none none none none) = .ok .nx (nE b2 many size g rows o5 o6 o7 o8 o9 o10) := by
    have h8 : (aCons (mPk 1) aNil) (nE b1 many size g [] none none none none none none) = .ok [.pk 1] (nE b1 many size g [] none none none none none none) := by unfold nE; simp only [p_stepC, p_stepF, p_seq, p_asg, p_drop, p_ret, p_pass, p_break, p_cont, p_ifs, p_if, p_de, p_ed, p_eo, p_do, p_use, p_move, p_pk, p_c, p_op2, p_op1, p_b, p_andT, p_orT, p_notT, p_tru, p_andV, p_orV, p_notV, p_aug, p_par, p_lst, p_tup, p_upd, p_isN, p_notN, p_isi, p_sl, p_inone, p_isome, p_cb, p_call, p_callk, p_anil, p_acons, p_dnil, p_dcons, p_enil, p_econs, p_yes, p_gn, p_gnil, p_gcons, p_gtup, p_gsub, p_cres, n_crT, n_cr2, takeOps, putOps, isOwnL, n_f1, atAll, Op.at, Rs.map_ok, n_bind, n_ap1, n_ap2, n_apL, Rs.bind_exc, Rs.bind_bad, n_of, Rs.of_none, Option.bind_some, Option.bind_none, Option.join_some, Option.map_some,
  List.getElem?_cons_zero, List.getElem?_cons_succ, List.getElem?_nil, List.set_cons_zero, List.set_cons_succ, List.length_cons, List.length_nil, T.toD, bl?_d, Nat.zero_lt_succ, Nat.succ_lt_succ_iff, if_true, if_false, reduceIte, reduceCtorEq, List.map_cons, List.map_nil, List.cons_append, List.nil_append, List.replicate_succ, List.replicate_zero, Nat.reduceAdd, Nat.reduceSub, Nat.reduceLT, Nat.reduceLeDiff, Nat.reduceEqDiff, bAdd_ii, bSub_ii, bMul_small, bMod_pos, bFdiv_pos, bPow_small, Int.reduceToNat, Int.reducePow, decide_eq_true_eq, decide_true, decide_false, bLt_ii, bGe_ii, bGt_ii, bLe_ii, bEq_ii, bNe_ii, bInt_i, bLen_l, bLen_d, bLen_ro, bLen_t, bList_l, bList_d, bList_ro, bList_t, bTuple_l, bTuple_d, bTuple_t, uAppend_one, uInsert_one, uPopAt_one, outs, aHas, aNo, aOne, aOr, bIx_l, bIx_d, bIx_t, bIx_ro, bTru, atI_lit, ixN_lit, bSl_l, bSl_d, bSl_ro, isi_l, isi_d, isi_t, isi_i, isi_b, isi_s, isi_n, Rs.env_ok, fSeq_l, fSeq_d, fSeq_ro, fSeq_t, fZip_ll, fZip_ld, fZip_dl, fZip_dd, fZip_tt, fEnum_l, fEnum_d, bIsN_of, bNotN_of, isNon_i, isNon_b, isNon_s, isNon_l, isNon_t, isNon_n, Tn.any, Tn.sub, eq_self, Bool.or_self, Bool.and_self, Bool.or_false, ne_eq, not_true, not_false_eq_true, and_self, and_true, true_and, opsFree, List.all_cons, List.all_nil, bEq_bb, bEq_ss, bNe_bb, bNe_ss, Bool.and_true, Bool.not_true, Bool.not_false, Bool.false_eq_true, List.any_cons, List.any_nil, Nat.reduceBEq, Bool.or_false, Bool.or_true, Bool.false_or, Bool.true_and, Bool.false_and, wipeE, unwipeE]
    refine (for_at h8 rfl (fR1_nat (n := many) (by omega)) rfl h4).trans ?_
    rfl
  have G7 : Gr size 700 rows := h7.up (by omega)
  have s4 : ∃ b3, ∃ rows3 : List Row, ∃ o14, q__law_numbers_5 (nE b2 many size g rows o5 o6 o7 o8 o9 o10) = .ok .nx [some (.l b3), some (.d (.int (many : Int))), some (.d (.int (size : Int))), some (.d (.bl g)), some (.l (dM rows3)), o5, o6, o7, o8, o9, o10, none, none, none, o14, none] ∧ BagOk (k + 1 + 50 * many + 2) b3 ∧ rows3.length = many ∧ Gr size 700 rows3 := by
    by_cases z : 0 < size
    · obtain ⟨b3, w, e2, k1, k2, k3⟩ := draw_ok (s := 8) h5 (by omega) (by omega) (by omega)
      have z' : (0 : Int) < (size : Int) := by omega
      by_cases c : w = 0
      · obtain ⟨b4, p, e3, k4, k5, k6⟩ := draw_ok (s := (size : Int)) k1 (by omega) (by omega) (by omega)
        obtain ⟨p, rfl⟩ := Int.eq_ofNat_of_zero_le k5
        have zg := zAt_go (p := p) h7.len hs (by omega) (some (.l b4)) (some (.d (.int (many : Int)))) (some (.d (.int (size : Int)))) (some (.d (.bl g))) o5 o6 o7 o8 o9 o10
        refine ⟨b4, rows.map fun r => zAt r p, some (.d (.int (p : Int))), ?_, k4, by rw [List.length_map, h6], ⟨fun r hr => ?_, fun r hr => ?_⟩⟩
        · unfold q__law_numbers_5 nE
          simp only [p_stepC, p_stepF, p_seq, p_asg, p_drop, p_ret, p_pass, p_break, p_cont, p_ifs, p_if, p_de, p_ed, p_eo, p_do, p_use, p_move, p_pk, p_c, p_op2, p_op1, p_b, p_andT, p_orT, p_notT, p_tru, p_andV, p_orV, p_notV, p_aug, p_par, p_lst, p_tup, p_upd, p_isN, p_notN, p_isi, p_sl, p_inone, p_isome, p_cb, p_call, p_callk, p_anil, p_acons, p_dnil, p_dcons, p_enil, p_econs, p_yes, p_gn, p_gnil, p_gcons, p_gtup, p_gsub, p_cres, n_crT, n_cr2, takeOps, putOps, isOwnL, n_f1, atAll, Op.at, Rs.map_ok, n_bind, n_ap1, n_ap2, n_apL, Rs.bind_exc, Rs.bind_bad, n_of, Rs.of_none, Option.bind_some, Option.bind_none, Option.join_some, Option.map_some,
  List.getElem?_cons_zero, List.getElem?_cons_succ, List.getElem?_nil, List.set_cons_zero, List.set_cons_succ, List.length_cons, List.length_nil, T.toD, bl?_d, Nat.zero_lt_succ, Nat.succ_lt_succ_iff, if_true, if_false, reduceIte, reduceCtorEq, List.map_cons, List.map_nil, List.cons_append, List.nil_append, List.replicate_succ, List.replicate_zero, Nat.reduceAdd, Nat.reduceSub, Nat.reduceLT, Nat.reduceLeDiff, Nat.reduceEqDiff, bAdd_ii, bSub_ii, bMul_small, bMod_pos, bFdiv_pos, bPow_small, Int.reduceToNat, Int.reducePow, decide_eq_true_eq, decide_true, decide_false, bLt_ii, bGe_ii, bGt_ii, bLe_ii, bEq_ii, bNe_ii, bInt_i, bLen_l, bLen_d, bLen_ro, bLen_t, bList_l, bList_d, bList_ro, bList_t, bTuple_l, bTuple_d, bTuple_t, uAppend_one, uInsert_one, uPopAt_one, outs, aHas, aNo, aOne, aOr, bIx_l, bIx_d, bIx_t, bIx_ro, bTru, atI_lit, ixN_lit, bSl_l, bSl_d, bSl_ro, isi_l, isi_d, isi_t, isi_i, isi_b, isi_s, isi_n, Rs.env_ok, fSeq_l, fSeq_d, fSeq_ro, fSeq_t, fZip_ll, fZip_ld, fZip_dl, fZip_dd, fZip_tt, fEnum_l, fEnum_d, bIsN_of, bNotN_of, isNon_i, isNon_b, isNon_s, isNon_l, isNon_t, isNon_n, Tn.any, Tn.sub, eq_self, Bool.or_self, Bool.and_self, Bool.or_false, ne_eq, not_true, not_false_eq_true, and_self, and_true, true_and, opsFree, List.all_cons, List.all_nil, bEq_bb, bEq_ss, bNe_bb, bNe_ss, Bool.and_true, Bool.not_true, Bool.not_false, Bool.false_eq_true, List.any_cons, List.any_nil, Nat.reduceBEq, Bool.or_false, Bool.or_true, Bool.false_or, Bool.true_and, Bool.false_and, wipeE, unwipeE, z', e2, c, e3, p_comp, zg, id_eq]
        · obtain ⟨r0, h, rfl⟩ := List.mem_map.mp hr
          have hz := h7.len r0 h
          rw [zAt_len (by omega)]; exact hz
        · obtain ⟨r0, h, rfl⟩ := List.mem_map.mp hr
          exact zAt_abs (G7.bd r0 h)
      · refine ⟨b3, rows, none, ?_, k1.mono (by omega), h6, G7⟩
        unfold q__law_numbers_5 nE
        simp only [p_stepC, p_stepF, p_seq, p_asg, p_drop, p_ret, p_pass, p_break, p_cont, p_ifs, p_if, p_de, p_ed, p_eo, p_do, p_use, p_move, p_pk, p_c, p_op2, p_op1, p_b, p_andT, p_orT, p_notT, p_tru, p_andV, p_orV, p_notV, p_aug, p_par, p_lst, p_tup, p_upd, p_isN, p_notN, p_isi, p_sl, p_inone, p_isome, p_cb, p_call, p_callk, p_anil, p_acons, p_dnil, p_dcons, p_enil, p_econs, p_yes, p_gn, p_gnil, p_gcons, p_gtup, p_gsub, p_cres, n_crT, n_cr2, takeOps, putOps, isOwnL, n_f1, atAll, Op.at, Rs.map_ok, n_bind, n_ap1, n_ap2, n_apL, Rs.bind_exc, Rs.bind_bad, n_of, Rs.of_none, Option.bind_some, Option.bind_none, Option.join_some, Option.map_some,
  List.getElem?_cons_zero, List.getElem?_cons_succ, List.getElem?_nil, List.set_cons_zero, List.set_cons_succ, List.length_cons, List.length_nil, T.toD, bl?_d, Nat.zero_lt_succ, Nat.succ_lt_succ_iff, if_true, if_false, reduceIte, reduceCtorEq, List.map_cons, List.map_nil, List.cons_append, List.nil_append, List.replicate_succ, List.replicate_zero, Nat.reduceAdd, Nat.reduceSub, Nat.reduceLT, Nat.reduceLeDiff, Nat.reduceEqDiff, bAdd_ii, bSub_ii, bMul_small, bMod_pos, bFdiv_pos, bPow_small, Int.reduceToNat, Int.reducePow, decide_eq_true_eq, decide_true, decide_false, bLt_ii, bGe_ii, bGt_ii, bLe_ii, bEq_ii, bNe_ii, bInt_i, bLen_l, bLen_d, bLen_ro, bLen_t, bList_l, bList_d, bList_ro, bList_t, bTuple_l, bTuple_d, bTuple_t, uAppend_one, uInsert_one, uPopAt_one, outs, aHas, aNo, aOne, aOr, bIx_l, bIx_d, bIx_t, bIx_ro, bTru, atI_lit, ixN_lit, bSl_l, bSl_d, bSl_ro, isi_l, isi_d, isi_t, isi_i, isi_b, isi_s, isi_n, Rs.env_ok, fSeq_l, fSeq_d, fSeq_ro, fSeq_t, fZip_ll, fZip_ld, fZip_dl, fZip_dd, fZip_tt, fEnum_l, fEnum_d, bIsN_of, bNotN_of, isNon_i, isNon_b, isNon_s, isNon_l, isNon_t, isNon_n, Tn.any, Tn.sub, eq_self, Bool.or_self, Bool.and_self, Bool.or_false, ne_eq, not_true, not_false_eq_true, and_self, and_true, true_and, opsFree, List.all_cons, List.all_nil, bEq_bb, bEq_ss, bNe_bb, bNe_ss, Bool.and_true, Bool.not_true, Bool.not_false, Bool.false_eq_true, List.any_cons, List.any_nil, Nat.reduceBEq, Bool.or_false, Bool.or_true, Bool.false_or, Bool.true_and, Bool.false_and, wipeE, unwipeE, z', e2, c]
    · have z' : ¬ (0 : Int) < (size : Int) := by omega
      refine ⟨b2, rows, none, ?_, h5.mono (by omega), h6, G7⟩
      unfold q__law_numbers_5 nE
      simp only [p_stepC, p_stepF, p_seq, p_asg, p_drop, p_ret, p_pass, p_break, p_cont, p_ifs, p_if, p_de, p_ed, p_eo, p_do, p_use, p_move, p_pk, p_c, p_op2, p_op1, p_b, p_andT, p_orT, p_notT, p_tru, p_andV, p_orV, p_notV, p_aug, p_par, p_lst, p_tup, p_upd, p_isN, p_notN, p_isi, p_sl, p_inone, p_isome, p_cb, p_call, p_callk, p_anil, p_acons, p_dnil, p_dcons, p_enil, p_econs, p_yes, p_gn, p_gnil, p_gcons, p_gtup, p_gsub, p_cres, n_crT, n_cr2, takeOps, putOps, isOwnL, n_f1, atAll, Op.at, Rs.map_ok, n_bind, n_ap1, n_ap2, n_apL, Rs.bind_exc, Rs.bind_bad, n_of, Rs.of_none, Option.bind_some, Option.bind_none, Option.join_some, Option.map_some,
  List.getElem?_cons_zero, List.getElem?_cons_succ, List.getElem?_nil, List.set_cons_zero, List.set_cons_succ, List.length_cons, List.length_nil, T.toD, bl?_d, Nat.zero_lt_succ, Nat.succ_lt_succ_iff, if_true, if_false, reduceIte, reduceCtorEq, List.map_cons, List.map_nil, List.cons_append, List.nil_append, List.replicate_succ, List.replicate_zero, Nat.reduceAdd, Nat.reduceSub, Nat.reduceLT, Nat.reduceLeDiff, Nat.reduceEqDiff, bAdd_ii, bSub_ii, bMul_small, bMod_pos, bFdiv_pos, bPow_small, Int.reduceToNat, Int.reducePow, decide_eq_true_eq, decide_true, decide_false, bLt_ii, bGe_ii, bGt_ii, bLe_ii, bEq_ii, bNe_ii, bInt_i, bLen_l, bLen_d, bLen_ro, bLen_t, bList_l, bList_d, bList_ro, bList_t, bTuple_l, bTuple_d, bTuple_t, uAppend_one, uInsert_one, uPopAt_one, outs, aHas, aNo, aOne, aOr, bIx_l, bIx_d, bIx_t, bIx_ro, bTru, atI_lit, ixN_lit, bSl_l, bSl_d, bSl_ro, isi_l, isi_d, isi_t, isi_i, isi_b, isi_s, isi_n, Rs.env_ok, fSeq_l, fSeq_d, fSeq_ro, fSeq_t, fZip_ll, fZip_ld, fZip_dl, fZip_dd, fZip_tt, fEnum_l, fEnum_d, bIsN_of, bNotN_of, isNon_i, isNon_b, isNon_s, isNon_l, isNon_t, isNon_n, Tn.any, Tn.sub, eq_self, Bool.or_self, Bool.and_self, Bool.or_false, ne_eq, not_true, not_false_eq_true, and_self, and_true, true_and, opsFree, List.all_cons, List.all_nil, bEq_bb, bEq_ss, bNe_bb, bNe_ss, Bool.and_true, Bool.not_true, Bool.not_false, Bool.false_eq_true, List.any_cons, List.any_nil, Nat.reduceBEq, Bool.or_false, Bool.or_true, Bool.false_or, Bool.true_and, Bool.false_and, wipeE, unwipeE, z']
  obtain ⟨b3, rows3, o14, s4, k1, k2, k3⟩ := s4
  obtain ⟨b4, ys, e4, k4, k5, k6⟩ := mixed_ok (xs := dM rows3) k1 (by rw [dM_len]; omega) (by rw [dM_len]; omega)
  obtain ⟨rs, rfl, k7⟩ := of_dM k6
  rw [dM_len] at k4
  refine ⟨b4, rs, ?_, k4.mono (by omega), by rw [dM_len, dM_len] at k5; omega, ⟨fun r hr => k3.len r (k7 r hr), fun r hr => k3.bd r (k7 r hr)⟩⟩
  have key : mb__law_numbers [some (.l b), some (.d (.int (many : Int))), some (.d (.int (size : Int))), none, none, none, none, none, none, none, none, none, none, none, none, none] = .ok (.rt (.d (.lst (dM rs)))) [some (.l b4), some (.d (.int (many : Int))), some (.d (.int (size : Int))), some (.d (.bl g)), some (.l (dM rows3)), o5, o6, o7, o8, o9, o10, none, none, none, o14, none] := by
    unfold mb__law_numbers
    rw [seq_nx s1, seq_nx s2, seq_nx s3, seq_nx s4]
    unfold q__law_numbers_6
    simp only [p_stepC, p_stepF, p_seq, p_asg, p_drop, p_ret, p_pass, p_break, p_cont, p_ifs, p_if, p_de, p_ed, p_eo, p_do, p_use, p_move, p_pk, p_c, p_op2, p_op1, p_b, p_andT, p_orT, p_notT, p_tru, p_andV, p_orV, p_notV, p_aug, p_par, p_lst, p_tup, p_upd, p_isN, p_notN, p_isi, p_sl, p_inone, p_isome, p_cb, p_call, p_callk, p_anil, p_acons, p_dnil, p_dcons, p_enil, p_econs, p_yes, p_gn, p_gnil, p_gcons, p_gtup, p_gsub, p_cres, n_crT, n_cr2, takeOps, putOps, isOwnL, n_f1, atAll, Op.at, Rs.map_ok, n_bind, n_ap1, n_ap2, n_apL, Rs.bind_exc, Rs.bind_bad, n_of, Rs.of_none, Option.bind_some, Option.bind_none, Option.join_some, Option.map_some,
  List.getElem?_cons_zero, List.getElem?_cons_succ, List.getElem?_nil, List.set_cons_zero, List.set_cons_succ, List.length_cons, List.length_nil, T.toD, bl?_d, Nat.zero_lt_succ, Nat.succ_lt_succ_iff, if_true, if_false, reduceIte, reduceCtorEq, List.map_cons, List.map_nil, List.cons_append, List.nil_append, List.replicate_succ, List.replicate_zero, Nat.reduceAdd, Nat.reduceSub, Nat.reduceLT, Nat.reduceLeDiff, Nat.reduceEqDiff, bAdd_ii, bSub_ii, bMul_small, bMod_pos, bFdiv_pos, bPow_small, Int.reduceToNat, Int.reducePow, decide_eq_true_eq, decide_true, decide_false, bLt_ii, bGe_ii, bGt_ii, bLe_ii, bEq_ii, bNe_ii, bInt_i, bLen_l, bLen_d, bLen_ro, bLen_t, bList_l, bList_d, bList_ro, bList_t, bTuple_l, bTuple_d, bTuple_t, uAppend_one, uInsert_one, uPopAt_one, outs, aHas, aNo, aOne, aOr, bIx_l, bIx_d, bIx_t, bIx_ro, bTru, atI_lit, ixN_lit, bSl_l, bSl_d, bSl_ro, isi_l, isi_d, isi_t, isi_i, isi_b, isi_s, isi_n, Rs.env_ok, fSeq_l, fSeq_d, fSeq_ro, fSeq_t, fZip_ll, fZip_ld, fZip_dl, fZip_dd, fZip_tt, fEnum_l, fEnum_d, bIsN_of, bNotN_of, isNon_i, isNon_b, isNon_s, isNon_l, isNon_t, isNon_n, Tn.any, Tn.sub, eq_self, Bool.or_self, Bool.and_self, Bool.or_false, ne_eq, not_true, not_false_eq_true, and_self, and_true, true_and, opsFree, List.all_cons, List.all_nil, bEq_bb, bEq_ss, bNe_bb, bNe_ss, Bool.and_true, Bool.not_true, Bool.not_false, Bool.false_eq_true, List.any_cons, List.any_nil, Nat.reduceBEq, Bool.or_false, Bool.or_true, Bool.false_or, Bool.true_and, Bool.false_and, wipeE, unwipeE, e4]
  unfold m__law_numbers
  exact Eq.trans (fn_ret (by rfl) key) (by rfl)
end NS
namespace NS
open PySem L2 LA
theorem dp_int (i : Int) : Dp 6 (.int i) := .int 5 i
theorem dp_rows (rows : List Row) (hl : rows.length ≤ 1000) (hr : ∀ r ∈ rows, r.length ≤ 1000) : Dp 6 (.lst (dM rows)) := by
  refine .lst 5 _ (by rw [dM_len, sizeLine_val]; omega) fun x hx => ?_
  unfold dM at hx
  obtain ⟨r, h, rfl⟩ := List.mem_map.mp hx
  refine .lst 4 _ (by rw [List.length_map, sizeLine_val]; have := hr r h; omega) fun y hy => ?_
  obtain ⟨i, _, rfl⟩ := List.mem_map.mp hy
  exact .int 3 i
theorem like_int (i : Int) : m__law_like 6 [.d (.int i), .d (.int i)] = .ok (.d (.bl true)) [some (.d (.int i)), some (.d (.int i))] := like_ok 6 _ (dp_int i) _ _ (.d _) (.d _)
theorem Gr.abs {n B : Nat} {rows : List Row} (g : Gr n B rows) : ∀ r ∈ rows, ∀ j, (at0 r j).natAbs ≤ 2 ^ B := fun r hr j => at0_abs (g.bd r hr) j
/-- two rows exchanged -/
def swp (rows : List Row) (a b : Nat) : List Row := (rows.set a (rows.getD b [])).set b (rows.getD a [])
theorem swp_len (rows : List Row) (a b : Nat) : (swp rows a b).length = rows.length := by unfold swp; rw [List.length_set, List.length_set]
theorem swp_mem {rows : List Row} {a b : Nat} (ha : a < rows.length) (hb : b < rows.length) : ∀ r ∈ swp rows a b, r ∈ rows := fun r hr => by
  have ga : rows.getD a [] ∈ rows := by rw [List.getD_eq_getElem?_getD, List.getElem?_eq_getElem ha]; exact List.getElem_mem ha
  have gb : rows.getD b [] ∈ rows := by rw [List.getD_eq_getElem?_getD, List.getElem?_eq_getElem hb]; exact List.getElem_mem hb
  unfold swp at hr
  rcases List.mem_or_eq_of_mem_set hr with h | h
  · rcases List.mem_or_eq_of_mem_set h with h | h
    · exact h
    · rw [h]; exact gb
  · rw [h]; exact ga
theorem swp_mx {rows : List Row} {a b : Nat} (ha : a < rows.length) (hb : b < rows.length) (i j : Nat) : mx (swp rows a b) i j = LA.upd (LA.upd (mx rows) a (mx rows b)) b (mx rows a) i j := by
  unfold swp LA.upd mx
  rw [List.getD_eq_getElem?_getD, List.getElem?_set]
  by_cases h1 : i = b
  · subst h1
    rw [if_pos rfl, if_pos (by rw [List.length_set]; exact hb), if_pos rfl]; rfl
  · rw [if_neg (fun h => h1 h.symm), if_neg h1, List.getElem?_set]
    by_cases h2 : i = a
    · subst h2
      rw [if_pos rfl, if_pos ha, if_pos rfl]; rfl
    · rw [if_neg (fun h => h2 h.symm), if_neg h2, ← List.getD_eq_getElem?_getD]
theorem swp_det {rows : List Row} {a b n : Nat} (hl : rows.length = n) (hab : a ≠ b) (ha : a < n) (hb : b < n) : det n (mx (swp rows a b)) = -det n (mx rows) := by
  rw [← det_swap hab ha hb (mx rows)]
  exact det_congr fun i j _ _ => swp_mx (by omega) (by omega) i j
theorem swp_rk {rows : List Row} {a b n r : Nat} (ha : a < rows.length) (hb : b < rows.length) (h : Rk rows.length n (mx rows) r) : Rk rows.length n (mx (swp rows a b)) r := by
  refine h.rows (fun i hi => .inr ?_) (fun i hi => .inr ?_)
  · by_cases h1 : i = b
    · exact ⟨a, ha, fun j _ => by rw [swp_mx ha hb]; unfold LA.upd; rw [if_pos h1]⟩
    · by_cases h2 : i = a
      · exact ⟨b, hb, fun j _ => by rw [swp_mx ha hb]; unfold LA.upd; rw [if_neg h1, if_pos h2]⟩
      · exact ⟨i, hi, fun j _ => by rw [swp_mx ha hb]; unfold LA.upd; rw [if_neg h1, if_neg h2]⟩
  · by_cases h1 : i = b
    · by_cases h3 : a = b
      · exact ⟨b, hb, fun j _ => by rw [swp_mx ha hb]; unfold LA.upd; rw [if_pos rfl, h1, h3]⟩
      · exact ⟨a, ha, fun j _ => by rw [swp_mx ha hb]; unfold LA.upd; rw [if_neg h3, if_pos rfl, h1]⟩
    · by_cases h2 : i = a
      · exact ⟨b, hb, fun j _ => by rw [swp_mx ha hb]; unfold LA.upd; rw [if_pos rfl, h2]⟩
      · exact ⟨i, hi, fun j _ => by rw [swp_mx ha hb]; unfold LA.upd; rw [if_neg h1, if_neg h2]⟩
theorem copy5 {rows : List Row} (hl : rows.length ≤ 1000) (a b c d e f g h : Option T) : compGo [5] (gN 5) mYes (mED (mCB (f1 bList) (aCons (mPk 5) aNil))) (dM rows) [a, b, c, d, e, none, f, g, h] [] = .ok (dM rows) [a, b, c, d, e, none, f, g, h] := by
  refine (comp_mapW dR (fun r => some (dR r)) rows [] (fun r hr' => ?_) (by rw [sizeLine_val]; simp only [List.length_nil]; omega)).trans (by rw [List.nil_append, filterMap_all]; rfl)
  unfold dR; simp only [p_stepC, p_stepF, p_seq, p_asg, p_drop, p_ret, p_pass, p_break, p_cont, p_ifs, p_if, p_de, p_ed, p_eo, p_do, p_use, p_move, p_pk, p_c, p_op2, p_op1, p_b, p_andT, p_orT, p_notT, p_tru, p_andV, p_orV, p_notV, p_aug, p_par, p_lst, p_tup, p_upd, p_isN, p_notN, p_isi, p_sl, p_inone, p_isome, p_cb, p_call, p_callk, p_anil, p_acons, p_dnil, p_dcons, p_enil, p_econs, p_yes, p_gn, p_gnil, p_gcons, p_gtup, p_gsub, p_cres, n_crT, n_cr2, takeOps, putOps, isOwnL, n_f1, atAll, Op.at, Rs.map_ok, n_bind, n_ap1, n_ap2, n_apL, Rs.bind_exc, Rs.bind_bad, n_of, Rs.of_none, Option.bind_some, Option.bind_none, Option.join_some, Option.map_some,
  List.getElem?_cons_zero, List.getElem?_cons_succ, List.getElem?_nil, List.set_cons_zero, List.set_cons_succ, List.length_cons, List.length_nil, T.toD, bl?_d, Nat.zero_lt_succ, Nat.succ_lt_succ_iff, if_true, if_false, reduceIte, reduceCtorEq, List.map_cons, List.map_nil, List.cons_append, List.nil_append, List.replicate_succ, List.replicate_zero, Nat.reduceAdd, Nat.reduceSub, Nat.reduceLT, Nat.reduceLeDiff, Nat.reduceEqDiff, bAdd_ii, bSub_ii, bMul_small, bMod_pos, bFdiv_pos, bPow_small, Int.reduceToNat, Int.reducePow, decide_eq_true_eq, decide_true, decide_false, bLt_ii, bGe_ii, bGt_ii, bLe_ii, bEq_ii, bNe_ii, bInt_i, bLen_l, bLen_d, bLen_ro, bLen_t, bList_l, bList_d, bList_ro, bList_t, bTuple_l, bTuple_d, bTuple_t, uAppend_one, uInsert_one, uPopAt_one, outs, aHas, aNo, aOne, aOr, bIx_l, bIx_d, bIx_t, bIx_ro, bTru, atI_lit, ixN_lit, bSl_l, bSl_d, bSl_ro, isi_l, isi_d, isi_t, isi_i, isi_b, isi_s, isi_n, Rs.env_ok, fSeq_l, fSeq_d, fSeq_ro, fSeq_t, fZip_ll, fZip_ld, fZip_dl, fZip_dd, fZip_tt, fEnum_l, fEnum_d, bIsN_of, bNotN_of, isNon_i, isNon_b, isNon_s, isNon_l, isNon_t, isNon_n, Tn.any, Tn.sub, eq_self, Bool.or_self, Bool.and_self, Bool.or_false, ne_eq, not_true, not_false_eq_true, and_self, and_true, true_and, opsFree, List.all_cons, List.all_nil, bEq_bb, bEq_ss, bNe_bb, bNe_ss, Bool.and_true, Bool.not_true, Bool.not_false, Bool.false_eq_true, List.any_cons, List.any_nil, Nat.reduceBEq, Bool.or_false, Bool.or_true, Bool.false_or, Bool.true_and, Bool.false_and, wipeE, unwipeE]
theorem tup5 {rows : List Row} (hl : rows.length ≤ 1000) (a b c d e f g h : Option T) : compGo [5] (gN 5) mYes (mED (mCB (f1 bTuple) (aCons (mPk 5) aNil))) (dM rows) [a, b, c, d, e, none, f, g, h] [] = .ok (rows.map dT) [a, b, c, d, e, none, f, g, h] := by
  refine (comp_mapW dR (fun r => some (dT r)) rows [] (fun r hr' => ?_) (by rw [sizeLine_val]; simp only [List.length_nil]; omega)).trans (by rw [List.nil_append, filterMap_all])
  unfold dR dT; simp only [p_stepC, p_stepF, p_seq, p_asg, p_drop, p_ret, p_pass, p_break, p_cont, p_ifs, p_if, p_de, p_ed, p_eo, p_do, p_use, p_move, p_pk, p_c, p_op2, p_op1, p_b, p_andT, p_orT, p_notT, p_tru, p_andV, p_orV, p_notV, p_aug, p_par, p_lst, p_tup, p_upd, p_isN, p_notN, p_isi, p_sl, p_inone, p_isome, p_cb, p_call, p_callk, p_anil, p_acons, p_dnil, p_dcons, p_enil, p_econs, p_yes, p_gn, p_gnil, p_gcons, p_gtup, p_gsub, p_cres, n_crT, n_cr2, takeOps, putOps, isOwnL, n_f1, atAll, Op.at, Rs.map_ok, n_bind, n_ap1, n_ap2, n_apL, Rs.bind_exc, Rs.bind_bad, n_of, Rs.of_none, Option.bind_some, Option.bind_none, Option.join_some, Option.map_some,
  List.getElem?_cons_zero, List.getElem?_cons_succ, List.getElem?_nil, List.set_cons_zero, List.set_cons_succ, List.length_cons, List.length_nil, T.toD, bl?_d, Nat.zero_lt_succ, Nat.succ_lt_succ_iff, if_true, if_false, reduceIte, reduceCtorEq, List.map_cons, List.map_nil, List.cons_append, List.nil_append, List.replicate_succ, List.replicate_zero, Nat.reduceAdd, Nat.reduceSub, Nat.reduceLT, Nat.reduceLeDiff, Nat.reduceEqDiff, bAdd_ii, bSub_ii, bMul_small, bMod_pos, bFdiv_pos, bPow_small, Int.reduceToNat, Int.reducePow, decide_eq_true_eq, decide_true, decide_false, bLt_ii, bGe_ii, bGt_ii, bLe_ii, bEq_ii, bNe_ii, bInt_i, bLen_l, bLen_d, bLen_ro, bLen_t, bList_l, bList_d, bList_ro, bList_t, bTuple_l, bTuple_d, bTuple_t, uAppend_one, uInsert_one, uPopAt_one, outs, aHas, aNo, aOne, aOr, bIx_l, bIx_d, bIx_t, bIx_ro, bTru, atI_lit, ixN_lit, bSl_l, bSl_d, bSl_ro, isi_l, isi_d, isi_t, isi_i, isi_b, isi_s, isi_n, Rs.env_ok, fSeq_l, fSeq_d, fSeq_ro, fSeq_t, fZip_ll, fZip_ld, fZip_dl, fZip_dd, fZip_tt, fEnum_l, fEnum_d, bIsN_of, bNotN_of, isNon_i, isNon_b, isNon_s, isNon_l, isNon_t, isNon_n, Tn.any, Tn.sub, eq_self, Bool.or_self, Bool.and_self, Bool.or_false, ne_eq, not_true, not_false_eq_true, and_self, and_true, true_and, opsFree, List.all_cons, List.all_nil, bEq_bb, bEq_ss, bNe_bb, bNe_ss, Bool.and_true, Bool.not_true, Bool.not_false, Bool.false_eq_true, List.any_cons, List.any_nil, Nat.reduceBEq, Bool.or_false, Bool.or_true, Bool.false_or, Bool.true_and, Bool.false_and, wipeE, unwipeE]
theorem sq_a {rows : List Row} {n : Nat} {b : List D} (hl : rows.length = n) (hn : n ≤ 6) (g : Gr n 700 rows) :
    (mSeq q__law_square_so_0 (mSeq q__law_square_so_1 mNx)) [some (.l b), some (.d (.lst (dM rows))), none, none, none, none, none, none, none] = .ok .nx [some (.l b), some (.d (.lst (dM rows))), some (.d (.int (n : Int))), some (.d (.int (det n (mx rows)))), some (.l (dM rows)), none, none, none, none] := by
  have e1 := ldet_ok (e := 700) (by omega) 7 n rows (by omega) (by omega) hl g.len g.abs
  have c5 := copy5 (rows := rows) (by omega) (some (.l b)) (some (.d (.lst (dM rows)))) (some (.d (.int (n : Int)))) (some (.d (.int (det n (mx rows))))) none none none none
  unfold q__law_square_so_0 q__law_square_so_1
  simp only [p_stepC, p_stepF, p_seq, p_asg, p_drop, p_ret, p_pass, p_break, p_cont, p_ifs, p_if, p_de, p_ed, p_eo, p_do, p_use, p_move, p_pk, p_c, p_op2, p_op1, p_b, p_andT, p_orT, p_notT, p_tru, p_andV, p_orV, p_notV, p_aug, p_par, p_lst, p_tup, p_upd, p_isN, p_notN, p_isi, p_sl, p_inone, p_isome, p_cb, p_call, p_callk, p_anil, p_acons, p_dnil, p_dcons, p_enil, p_econs, p_yes, p_gn, p_gnil, p_gcons, p_gtup, p_gsub, p_cres, n_crT, n_cr2, takeOps, putOps, isOwnL, n_f1, atAll, Op.at, Rs.map_ok, n_bind, n_ap1, n_ap2, n_apL, Rs.bind_exc, Rs.bind_bad, n_of, Rs.of_none, Option.bind_some, Option.bind_none, Option.join_some, Option.map_some,
  List.getElem?_cons_zero, List.getElem?_cons_succ, List.getElem?_nil, List.set_cons_zero, List.set_cons_succ, List.length_cons, List.length_nil, T.toD, bl?_d, Nat.zero_lt_succ, Nat.succ_lt_succ_iff, if_true, if_false, reduceIte, reduceCtorEq, List.map_cons, List.map_nil, List.cons_append, List.nil_append, List.replicate_succ, List.replicate_zero, Nat.reduceAdd, Nat.reduceSub, Nat.reduceLT, Nat.reduceLeDiff, Nat.reduceEqDiff, bAdd_ii, bSub_ii, bMul_small, bMod_pos, bFdiv_pos, bPow_small, Int.reduceToNat, Int.reducePow, decide_eq_true_eq, decide_true, decide_false, bLt_ii, bGe_ii, bGt_ii, bLe_ii, bEq_ii, bNe_ii, bInt_i, bLen_l, bLen_d, bLen_ro, bLen_t, bList_l, bList_d, bList_ro, bList_t, bTuple_l, bTuple_d, bTuple_t, uAppend_one, uInsert_one, uPopAt_one, outs, aHas, aNo, aOne, aOr, bIx_l, bIx_d, bIx_t, bIx_ro, bTru, atI_lit, ixN_lit, bSl_l, bSl_d, bSl_ro, isi_l, isi_d, isi_t, isi_i, isi_b, isi_s, isi_n, Rs.env_ok, fSeq_l, fSeq_d, fSeq_ro, fSeq_t, fZip_ll, fZip_ld, fZip_dl, fZip_dd, fZip_tt, fEnum_l, fEnum_d, bIsN_of, bNotN_of, isNon_i, isNon_b, isNon_s, isNon_l, isNon_t, isNon_n, Tn.any, Tn.sub, eq_self, Bool.or_self, Bool.and_self, Bool.or_false, ne_eq, not_true, not_false_eq_true, and_self, and_true, true_and, opsFree, List.all_cons, List.all_nil, bEq_bb, bEq_ss, bNe_bb, bNe_ss, Bool.and_true, Bool.not_true, Bool.not_false, Bool.false_eq_true, List.any_cons, List.any_nil, Nat.reduceBEq, Bool.or_false, Bool.or_true, Bool.false_or, Bool.true_and, Bool.false_and, wipeE, unwipeE, dM_len, hl, e1, id_eq, p_comp, c5]
theorem sq_b {rows : List Row} {n : Nat} {b : List D} (hl : rows.length = n) (hn : n ≤ 6) (g : Gr n 700 rows) :
    (mSeq q__law_square_so_2 (mSeq q__law_square_so_3 mNx)) [some (.l b), some (.d (.lst (dM rows))), some (.d (.int (n : Int))), some (.d (.int (det n (mx rows)))), some (.l (dM rows)), none, none, none, none] = .ok .nx [some (.l b), some (.d (.lst (dM rows))), some (.d (.int (n : Int))), some (.d (.int (det n (mx rows)))), some (.l (dM rows)), none, none, none, none] := by
  have e1 := det_ok (e := 700) (.l rows) hl g.len (by omega) (by omega) g.abs
  have e2 := like_int (det n (mx rows))
  have e3 := like_ok 6 _ (dp_rows rows (by omega) fun r hr => by rw [g.len r hr]; omega) _ _ (.l _) (.d _)
  have e4 := turned_ok (rows := rows) (n := n) g.len (by omega) (by omega)
  have t5 := tup5 (rows := turn rows n) (by rw [turn_len]; omega) (some (.l b)) (some (.d (.lst (dM rows)))) (some (.d (.int (n : Int)))) (some (.d (.int (det n (mx rows))))) (some (.l (dM rows))) none none none
  have e5 := det_ok (e := 700) (.t (turn rows n)) (turn_len rows n) (fun r hr => by rw [turn_row r hr, hl]) (by omega) (by omega) (turn_abs g.abs)
  have dt : det n (mx (turn rows n)) = det n (mx rows) := by
    rw [← det_T n (mx rows)]
    exact det_congr fun i j hi hj => turn_mx hi (by omega)
  rw [dt] at e5
  unfold q__law_square_so_2 q__law_square_so_3
  simp only [p_stepC, p_stepF, p_seq, p_asg, p_drop, p_ret, p_pass, p_break, p_cont, p_ifs, p_if, p_de, p_ed, p_eo, p_do, p_use, p_move, p_pk, p_c, p_op2, p_op1, p_b, p_andT, p_orT, p_notT, p_tru, p_andV, p_orV, p_notV, p_aug, p_par, p_lst, p_tup, p_upd, p_isN, p_notN, p_isi, p_sl, p_inone, p_isome, p_cb, p_call, p_callk, p_anil, p_acons, p_dnil, p_dcons, p_enil, p_econs, p_yes, p_gn, p_gnil, p_gcons, p_gtup, p_gsub, p_cres, n_crT, n_cr2, takeOps, putOps, isOwnL, n_f1, atAll, Op.at, Rs.map_ok, n_bind, n_ap1, n_ap2, n_apL, Rs.bind_exc, Rs.bind_bad, n_of, Rs.of_none, Option.bind_some, Option.bind_none, Option.join_some, Option.map_some,
  List.getElem?_cons_zero, List.getElem?_cons_succ, List.getElem?_nil, List.set_cons_zero, List.set_cons_succ, List.length_cons, List.length_nil, T.toD, bl?_d, Nat.zero_lt_succ, Nat.succ_lt_succ_iff, if_true, if_false, reduceIte, reduceCtorEq, List.map_cons, List.map_nil, List.cons_append, List.nil_append, List.replicate_succ, List.replicate_zero, Nat.reduceAdd, Nat.reduceSub, Nat.reduceLT, Nat.reduceLeDiff, Nat.reduceEqDiff, bAdd_ii, bSub_ii, bMul_small, bMod_pos, bFdiv_pos, bPow_small, Int.reduceToNat, Int.reducePow, decide_eq_true_eq, decide_true, decide_false, bLt_ii, bGe_ii, bGt_ii, bLe_ii, bEq_ii, bNe_ii, bInt_i, bLen_l, bLen_d, bLen_ro, bLen_t, bList_l, bList_d, bList_ro, bList_t, bTuple_l, bTuple_d, bTuple_t, uAppend_one, uInsert_one, uPopAt_one, outs, aHas, aNo, aOne, aOr, bIx_l, bIx_d, bIx_t, bIx_ro, bTru, atI_lit, ixN_lit, bSl_l, bSl_d, bSl_ro, isi_l, isi_d, isi_t, isi_i, isi_b, isi_s, isi_n, Rs.env_ok, fSeq_l, fSeq_d, fSeq_ro, fSeq_t, fZip_ll, fZip_ld, fZip_dl, fZip_dd, fZip_tt, fEnum_l, fEnum_d, bIsN_of, bNotN_of, isNon_i, isNon_b, isNon_s, isNon_l, isNon_t, isNon_n, Tn.any, Tn.sub, eq_self, Bool.or_self, Bool.and_self, Bool.or_false, ne_eq, not_true, not_false_eq_true, and_self, and_true, true_and, opsFree, List.all_cons, List.all_nil, bEq_bb, bEq_ss, bNe_bb, bNe_ss, Bool.and_true, Bool.not_true, Bool.not_false, Bool.false_eq_true, List.any_cons, List.any_nil, Nat.reduceBEq, Bool.or_false, Bool.or_true, Bool.false_or, Bool.true_and, Bool.false_and, wipeE, unwipeE, e1, e2, e3, e4, p_comp, t5, e5]
end NS
namespace NS
open PySem L2 LA
/-- the second place is another one -/
theorem other_at {n a v : Nat} (ha : a < n) (hv : v < n - 1) : ∃ b : Nat, ((a : Int) + 1 + (v : Int)) % (n : Int) = (b : Int) ∧ b < n ∧ a ≠ b := by
  refine ⟨(a + 1 + v) % n, by rw [Int.natCast_emod]; norm_cast, Nat.mod_lt _ (by omega), ?_⟩
  by_cases h : a + 1 + v < n
  · rw [Nat.mod_eq_of_lt h]; omega
  · rw [Nat.mod_eq_sub_mod (by omega), Nat.mod_eq_of_lt (by omega)]; omega
theorem sq_c {rows : List Row} {n k : Nat} {b : List D} (hb : BagOk k b) (hk : k + 10 < 2 ^ 39) (hl : rows.length = n) (hn : n ≤ 6) (g : Gr n 700 rows) :
    ∃ b', ∃ hd : T, ∃ rows2 o6 o7, q__law_square_so_4 [some (.l b), some (.d (.lst (dM rows))), some (.d (.int (n : Int))), some (.d (.int (det n (mx rows)))), some (.l (dM rows)), none, none, none, none] = .ok .nx [some (.l b'), some (.d (.lst (dM rows))), some (.d (.int (n : Int))), some (.d (.int (det n (mx rows)))), some hd, none, o6, o7, none] ∧ BagOk (k + 2) b' ∧ RowsT hd rows2 ∧ rows2.length = n ∧ (∀ r ∈ rows2, r ∈ rows) ∧ ∀ q, Rk n n (mx rows) q → Rk n n (mx rows2) q := by
  by_cases h1 : 1 < n
  · obtain ⟨b1, a, e1, h2, h3, h4⟩ := draw_ok (s := (n : Int)) hb (by omega) (by omega) (by omega)
    obtain ⟨b2, v, e2, h5, h6, h7⟩ := draw_ok (s := (n : Int) - 1) h2 (by omega) (by omega) (by omega)
    obtain ⟨a, rfl⟩ := Int.eq_ofNat_of_zero_le h3
    obtain ⟨v, rfl⟩ := Int.eq_ofNat_of_zero_le h6
    obtain ⟨c, ec, hc, hac⟩ := other_at (n := n) (a := a) (v := v) (by omega) (by omega)
    have ha : a < rows.length := by omega
    have hc' : c < rows.length := by omega
    have ga := dM_atI ha
    have gc := dM_atI hc'
    have ia : ixN (dM rows).length (a : Int) = some a := by rw [ixN_nat, if_pos (by rw [dM_len]; exact ha)]
    have ic : ixN (dM (rows.set a rows[c])).length (c : Int) = some c := by rw [ixN_nat, if_pos (by rw [dM_len, List.length_set]; exact hc')]
    have sa := dM_set (rows := rows) (i := a) (r := rows[c])
    have sc := dM_set (rows := rows.set a rows[c]) (i := c) (r := rows[a])
    have sw : (rows.set a rows[c]).set c rows[a] = swp rows a c := by
      unfold swp
      rw [List.getD_eq_getElem?_getD, List.getD_eq_getElem?_getD, List.getElem?_eq_getElem ha, List.getElem?_eq_getElem hc']; rfl
    rw [sw] at sc
    have hm := swp_mem ha hc'
    have e3 := det_ok (e := 700) (.d (swp rows a c)) (by rw [swp_len, hl]) (fun r hr => g.len r (hm r hr)) (by omega) (by omega) (fun r hr => g.abs r (hm r hr))
    rw [swp_det hl hac (by omega) hc] at e3
    have e4 := like_int (-det n (mx rows))
    refine ⟨b2, .d (.lst (dM (swp rows a c))), swp rows a c, some (.d (.int (a : Int))), some (.d (.int (c : Int))), ?_, h5, .d _, by rw [swp_len, hl], hm, fun q hq => ?_⟩
    · have h1' : (1 : Int) < (n : Int) := by omega
      have hn0 : (0 : Int) < (n : Int) := by omega
      unfold q__law_square_so_4
      simp (disch := omega) only [p_stepC, p_stepF, p_seq, p_asg, p_drop, p_ret, p_pass, p_break, p_cont, p_ifs, p_if, p_de, p_ed, p_eo, p_do, p_use, p_move, p_pk, p_c, p_op2, p_op1, p_b, p_andT, p_orT, p_notT, p_tru, p_andV, p_orV, p_notV, p_aug, p_par, p_lst, p_tup, p_upd, p_isN, p_notN, p_isi, p_sl, p_inone, p_isome, p_cb, p_call, p_callk, p_anil, p_acons, p_dnil, p_dcons, p_enil, p_econs, p_yes, p_gn, p_gnil, p_gcons, p_gtup, p_gsub, p_cres, n_crT, n_cr2, takeOps, putOps, isOwnL, n_f1, atAll, Op.at, Rs.map_ok, n_bind, n_ap1, n_ap2, n_apL, Rs.bind_exc, Rs.bind_bad, n_of, Rs.of_none, Option.bind_some, Option.bind_none, Option.join_some, Option.map_some,
  List.getElem?_cons_zero, List.getElem?_cons_succ, List.getElem?_nil, List.set_cons_zero, List.set_cons_succ, List.length_cons, List.length_nil, T.toD, bl?_d, Nat.zero_lt_succ, Nat.succ_lt_succ_iff, if_true, if_false, reduceIte, reduceCtorEq, List.map_cons, List.map_nil, List.cons_append, List.nil_append, List.replicate_succ, List.replicate_zero, Nat.reduceAdd, Nat.reduceSub, Nat.reduceLT, Nat.reduceLeDiff, Nat.reduceEqDiff, bAdd_ii, bSub_ii, bMul_small, bMod_pos, bFdiv_pos, bPow_small, Int.reduceToNat, Int.reducePow, decide_eq_true_eq, decide_true, decide_false, bLt_ii, bGe_ii, bGt_ii, bLe_ii, bEq_ii, bNe_ii, bInt_i, bLen_l, bLen_d, bLen_ro, bLen_t, bList_l, bList_d, bList_ro, bList_t, bTuple_l, bTuple_d, bTuple_t, uAppend_one, uInsert_one, uPopAt_one, outs, aHas, aNo, aOne, aOr, bIx_l, bIx_d, bIx_t, bIx_ro, bTru, atI_lit, ixN_lit, bSl_l, bSl_d, bSl_ro, isi_l, isi_d, isi_t, isi_i, isi_b, isi_s, isi_n, Rs.env_ok, fSeq_l, fSeq_d, fSeq_ro, fSeq_t, fZip_ll, fZip_ld, fZip_dl, fZip_dd, fZip_tt, fEnum_l, fEnum_d, bIsN_of, bNotN_of, isNon_i, isNon_b, isNon_s, isNon_l, isNon_t, isNon_n, Tn.any, Tn.sub, eq_self, Bool.or_self, Bool.and_self, Bool.or_false, ne_eq, not_true, not_false_eq_true, and_self, and_true, true_and, opsFree, List.all_cons, List.all_nil, bEq_bb, bEq_ss, bNe_bb, bNe_ss, Bool.and_true, Bool.not_true, Bool.not_false, Bool.false_eq_true, List.any_cons, List.any_nil, Nat.reduceBEq, Bool.or_false, Bool.or_true, Bool.false_or, Bool.true_and, Bool.false_and, wipeE, unwipeE, h1', e1, e2, ec, gc, ga, ia, ic, sa, sc, e3, e4, Int.zero_sub, Bool.not_true]
    · subst hl; exact swp_rk ha hc' hq
  · refine ⟨b, .l (dM rows), rows, none, none, ?_, hb.mono (by omega), .l _, hl, fun r h => h, fun q h => h⟩
    have h1' : ¬ (1 : Int) < (n : Int) := by omega
    unfold q__law_square_so_4
    simp only [p_stepC, p_stepF, p_seq, p_asg, p_drop, p_ret, p_pass, p_break, p_cont, p_ifs, p_if, p_de, p_ed, p_eo, p_do, p_use, p_move, p_pk, p_c, p_op2, p_op1, p_b, p_andT, p_orT, p_notT, p_tru, p_andV, p_orV, p_notV, p_aug, p_par, p_lst, p_tup, p_upd, p_isN, p_notN, p_isi, p_sl, p_inone, p_isome, p_cb, p_call, p_callk, p_anil, p_acons, p_dnil, p_dcons, p_enil, p_econs, p_yes, p_gn, p_gnil, p_gcons, p_gtup, p_gsub, p_cres, n_crT, n_cr2, takeOps, putOps, isOwnL, n_f1, atAll, Op.at, Rs.map_ok, n_bind, n_ap1, n_ap2, n_apL, Rs.bind_exc, Rs.bind_bad, n_of, Rs.of_none, Option.bind_some, Option.bind_none, Option.join_some, Option.map_some,
  List.getElem?_cons_zero, List.getElem?_cons_succ, List.getElem?_nil, List.set_cons_zero, List.set_cons_succ, List.length_cons, List.length_nil, T.toD, bl?_d, Nat.zero_lt_succ, Nat.succ_lt_succ_iff, if_true, if_false, reduceIte, reduceCtorEq, List.map_cons, List.map_nil, List.cons_append, List.nil_append, List.replicate_succ, List.replicate_zero, Nat.reduceAdd, Nat.reduceSub, Nat.reduceLT, Nat.reduceLeDiff, Nat.reduceEqDiff, bAdd_ii, bSub_ii, bMul_small, bMod_pos, bFdiv_pos, bPow_small, Int.reduceToNat, Int.reducePow, decide_eq_true_eq, decide_true, decide_false, bLt_ii, bGe_ii, bGt_ii, bLe_ii, bEq_ii, bNe_ii, bInt_i, bLen_l, bLen_d, bLen_ro, bLen_t, bList_l, bList_d, bList_ro, bList_t, bTuple_l, bTuple_d, bTuple_t, uAppend_one, uInsert_one, uPopAt_one, outs, aHas, aNo, aOne, aOr, bIx_l, bIx_d, bIx_t, bIx_ro, bTru, atI_lit, ixN_lit, bSl_l, bSl_d, bSl_ro, isi_l, isi_d, isi_t, isi_i, isi_b, isi_s, isi_n, Rs.env_ok, fSeq_l, fSeq_d, fSeq_ro, fSeq_t, fZip_ll, fZip_ld, fZip_dl, fZip_dd, fZip_tt, fEnum_l, fEnum_d, bIsN_of, bNotN_of, isNon_i, isNon_b, isNon_s, isNon_l, isNon_t, isNon_n, Tn.any, Tn.sub, eq_self, Bool.or_self, Bool.and_self, Bool.or_false, ne_eq, not_true, not_false_eq_true, and_self, and_true, true_and, opsFree, List.all_cons, List.all_nil, bEq_bb, bEq_ss, bNe_bb, bNe_ss, Bool.and_true, Bool.not_true, Bool.not_false, Bool.false_eq_true, List.any_cons, List.any_nil, Nat.reduceBEq, Bool.or_false, Bool.or_true, Bool.false_or, Bool.true_and, Bool.false_and, wipeE, unwipeE, h1']
end NS
namespace NS
open PySem L2 LA
theorem sq_d {rows rows2 : List Row} {n : Nat} {b : List D} {hd : T} {o6 o7 : Option T} (hl : rows.length = n) (hn : n ≤ 6) (g : Gr n 700 rows) (ht : RowsT hd rows2) (h2 : rows2.length = n) (hm : ∀ r ∈ rows2, r ∈ rows) (hq : ∀ q, Rk n n (mx rows) q → Rk n n (mx rows2) q) :
    ∃ e', (mSeq q__law_square_so_5 q__law_square_so_6) [some (.l b), some (.d (.lst (dM rows))), some (.d (.int (n : Int))), some (.d (.int (det n (mx rows)))), some hd, none, o6, o7, none] = .ok (.rt (.d (.bl true))) (some (.l b) :: e') := by
  obtain ⟨k1, e1, r1⟩ := ind_ok (e := 700) (.d rows) g.len (by omega) (by omega) (by omega) g.abs
  obtain ⟨k2, e2, r2⟩ := ind_ok (e := 700) ht (fun r hr => g.len r (hm r hr)) (by omega) (by omega) (by omega) (fun r hr => g.abs r (hm r hr))
  obtain ⟨k3, e3, r3⟩ := count_ok (e := 700) g.len (by omega) (by omega) (by omega) g.abs
  rw [hl] at r1 r3
  rw [h2] at r2
  have ek : k2 = k3 := r2.one (hq _ r3)
  subst ek
  have fd := full_det n (mx rows) k1 r1
  have e4 := like_int (k2 : Int)
  have dd : decide (decide ((k1 : Int) = (n : Int)) = !decide (det n (mx rows) = 0)) = true := by
    by_cases h : det n (mx rows) = 0
    · have : ¬ ((k1 : Int) = (n : Int)) := fun hh => (fd.mp (by omega)) h
      simp [h, this]
    · have : ((k1 : Int) = (n : Int)) := by have := fd.mpr h; omega
      simp [h, this]
  refine ⟨[some (.d (.lst (dM rows))), some (.d (.int (n : Int))), some (.d (.int (det n (mx rows)))), some hd, none, o6, o7, some (.d (.bl (decide ((k1 : Int) = (n : Int)))))], ?_⟩
  unfold q__law_square_so_5 q__law_square_so_6
  generalize m_independent_rows = F at *
  generalize m__law_count = F2 at *
  generalize m__law_like 6 = F3 at *
  cases ht <;> simp only [p_stepC, p_stepF, p_seq, p_asg, p_drop, p_ret, p_pass, p_break, p_cont, p_ifs, p_if, p_de, p_ed, p_eo, p_do, p_use, p_move, p_pk, p_c, p_op2, p_op1, p_b, p_andT, p_orT, p_notT, p_tru, p_andV, p_orV, p_notV, p_aug, p_par, p_lst, p_tup, p_upd, p_isN, p_notN, p_isi, p_sl, p_inone, p_isome, p_cb, p_call, p_callk, p_anil, p_acons, p_dnil, p_dcons, p_enil, p_econs, p_yes, p_gn, p_gnil, p_gcons, p_gtup, p_gsub, p_cres, n_crT, n_cr2, takeOps, putOps, isOwnL, n_f1, atAll, Op.at, Rs.map_ok, n_bind, n_ap1, n_ap2, n_apL, Rs.bind_exc, Rs.bind_bad, n_of, Rs.of_none, Option.bind_some, Option.bind_none, Option.join_some, Option.map_some,
  List.getElem?_cons_zero, List.getElem?_cons_succ, List.getElem?_nil, List.set_cons_zero, List.set_cons_succ, List.length_cons, List.length_nil, T.toD, bl?_d, Nat.zero_lt_succ, Nat.succ_lt_succ_iff, if_true, if_false, reduceIte, reduceCtorEq, List.map_cons, List.map_nil, List.cons_append, List.nil_append, List.replicate_succ, List.replicate_zero, Nat.reduceAdd, Nat.reduceSub, Nat.reduceLT, Nat.reduceLeDiff, Nat.reduceEqDiff, bAdd_ii, bSub_ii, bMul_small, bMod_pos, bFdiv_pos, bPow_small, Int.reduceToNat, Int.reducePow, decide_eq_true_eq, decide_true, decide_false, bLt_ii, bGe_ii, bGt_ii, bLe_ii, bEq_ii, bNe_ii, bInt_i, bLen_l, bLen_d, bLen_ro, bLen_t, bList_l, bList_d, bList_ro, bList_t, bTuple_l, bTuple_d, bTuple_t, uAppend_one, uInsert_one, uPopAt_one, outs, aHas, aNo, aOne, aOr, bIx_l, bIx_d, bIx_t, bIx_ro, bTru, atI_lit, ixN_lit, bSl_l, bSl_d, bSl_ro, isi_l, isi_d, isi_t, isi_i, isi_b, isi_s, isi_n, Rs.env_ok, fSeq_l, fSeq_d, fSeq_ro, fSeq_t, fZip_ll, fZip_ld, fZip_dl, fZip_dd, fZip_tt, fEnum_l, fEnum_d, bIsN_of, bNotN_of, isNon_i, isNon_b, isNon_s, isNon_l, isNon_t, isNon_n, Tn.any, Tn.sub, eq_self, Bool.or_self, Bool.and_self, Bool.or_false, ne_eq, not_true, not_false_eq_true, and_self, and_true, true_and, opsFree, List.all_cons, List.all_nil, bEq_bb, bEq_ss, bNe_bb, bNe_ss, Bool.and_true, Bool.not_true, Bool.not_false, Bool.false_eq_true, List.any_cons, List.any_nil, Nat.reduceBEq, Bool.or_false, Bool.or_true, Bool.false_or, Bool.true_and, Bool.false_and, wipeE, unwipeE, e1, e2, e3, e4, dd]
theorem square_ok {rows : List Row} {n k : Nat} {b : List D} (hb : BagOk k b) (hk : k + 10 < 2 ^ 39) (hl : rows.length = n) (hn : n ≤ 6) (g : Gr n 700 rows) :
    ∃ b', m__law_square_so [.l b, .d (.lst (dM rows))] = .ok (.d (.bl true)) [some (.l b'), some (.d (.lst (dM rows)))] ∧ BagOk (k + 2) b' := by
  obtain ⟨b', hd, rows2, o6, o7, h1, h2, h3, h4, h5, h6⟩ := sq_c hb hk hl hn g
  obtain ⟨e', h7⟩ := sq_d (b := b') (o6 := o6) (o7 := o7) hl hn g h3 h4 h5 h6
  refine ⟨b', ?_, h2⟩
  have key : mb__law_square_so [some (.l b), some (.d (.lst (dM rows))), none, none, none, none, none, none, none] = .ok (.rt (.d (.bl true))) (some (.l b') :: e') := by
    unfold mb__law_square_so
    rw [seq_nx2 (sq_a hl hn g), seq_nx2 (sq_b hl hn g), seq_nx h1]
    exact h7
  unfold m__law_square_so
  exact Eq.trans (fn_ret (by rfl) key) (by rfl)
end NS
namespace NS
open PySem L2 LA
theorem Rk.copy {m n r : Nat} {M N : Mx} (h : Rk m n M r) (e : ∀ i j, i < m → j < n → N i j = M i j) : Rk m n N r := h.rows (fun i hi => .inr ⟨i, hi, fun j hj => e i j hi hj⟩) fun i hi => .inr ⟨i, hi, fun j hj => (e i j hi hj).symm⟩
theorem rk_turn {rows : List Row} {n r : Nat} (h : Rk rows.length n (mx rows) r) : Rk n rows.length (mx (turn rows n)) r := Rk.copy h.T fun i j hi hj => turn_mx hi hj
theorem mx_left {a b : List Row} {i : Nat} (h : i < a.length) (j : Nat) : mx (a ++ b) i j = mx a i j := by
  unfold mx; rw [List.getD_eq_getElem?_getD, List.getElem?_append_left h, ← List.getD_eq_getElem?_getD]
theorem mx_right {a b : List Row} {i : Nat} (h : a.length ≤ i) (j : Nat) : mx (a ++ b) i j = mx b (i - a.length) j := by
  unfold mx; rw [List.getD_eq_getElem?_getD, List.getElem?_append_right h, ← List.getD_eq_getElem?_getD]
theorem rk_twice {rows : List Row} {n r : Nat} (h : Rk rows.length n (mx rows) r) : Rk (rows ++ rows).length n (mx (rows ++ rows)) r := by
  refine h.rows (fun i hi => .inr ?_) (fun i hi => .inr ⟨i, by rw [List.length_append]; omega, fun j _ => (mx_left hi j).symm⟩)
  rw [List.length_append] at hi
  by_cases h1 : i < rows.length
  · exact ⟨i, h1, fun j _ => mx_left h1 j⟩
  · exact ⟨i - rows.length, by omega, fun j _ => mx_right (by omega) j⟩
theorem rk_zero {rows : List Row} {n r : Nat} (h : Rk rows.length n (mx rows) r) : Rk (rows ++ [List.replicate n 0]).length n (mx (rows ++ [List.replicate n 0])) r := by
  refine h.rows (fun i hi => ?_) (fun i hi => .inr ⟨i, by rw [List.length_append]; omega, fun j _ => (mx_left hi j).symm⟩)
  rw [List.length_append] at hi
  simp only [List.length_cons, List.length_nil] at hi
  by_cases h1 : i < rows.length
  · exact .inr ⟨i, h1, fun j _ => mx_left h1 j⟩
  · refine .inl fun j hj => ?_
    rw [mx_right (by omega), show i - rows.length = 0 by omega]
    show at0 (List.replicate n 0) j = 0
    rw [at0_lt (by rw [List.length_replicate]; exact hj), List.getElem_replicate]
theorem sizes1 (r : Nat) (h : r < 6) : ∃ n : Nat, n ≤ 6 ∧ [D.int 2, .int 3, .int 4, .int 1, .int 3, .int 5][r] = .int (n : Int) := by
  match r, h with
  | 0, _ => exact ⟨2, by omega, rfl⟩
  | 1, _ => exact ⟨3, by omega, rfl⟩
  | 2, _ => exact ⟨4, by omega, rfl⟩
  | 3, _ => exact ⟨1, by omega, rfl⟩
  | 4, _ => exact ⟨3, by omega, rfl⟩
  | 5, _ => exact ⟨5, by omega, rfl⟩
theorem sizes2 (r : Nat) (h : r < 7) : ∃ n : Nat, n ≤ 6 ∧ [D.int 3, .int 4, .int 2, .int 5, .int 6, .int 1, .int 0][r] = .int (n : Int) := by
  match r, h with
  | 0, _ => exact ⟨3, by omega, rfl⟩
  | 1, _ => exact ⟨4, by omega, rfl⟩
  | 2, _ => exact ⟨2, by omega, rfl⟩
  | 3, _ => exact ⟨5, by omega, rfl⟩
  | 4, _ => exact ⟨6, by omega, rfl⟩
  | 5, _ => exact ⟨1, by omega, rfl⟩
  | 6, _ => exact ⟨0, by omega, rfl⟩
theorem lap_a {k : Nat} {b : List D} (hb : BagOk k b) (hk : k + 5000 < 2 ^ 39) (s o2 o3 o4 o5 o6 o7 o9 : Option T) :
    ∃ b', ∃ n : Nat, ∃ sq, (mSeq q_law_0 (mSeq q_law_1 (mSeq q_law_2 mNx))) [s, some (.l b), o2, o3, o4, o5, o6, o7, none, o9] = .ok .nx [s, some (.l b'), o2, some (.d (.int (n : Int))), some (.d (.lst (dM sq))), o5, o6, o7, none, o9] ∧ BagOk (k + 600) b' := by
  obtain ⟨b1, r, hr, e1, h1⟩ := of_ok (xs := [D.int 2, .int 3, .int 4, .int 1, .int 3, .int 5]) hb (by omega) (by simp) (by decide)
  obtain ⟨n, hn, en⟩ := sizes1 r hr
  rw [en] at e1
  obtain ⟨b2, sq, e2, h2, h3, h4⟩ := numbers_ok (many := n) (size := n) h1 (by omega) (by omega) (by omega)
  obtain ⟨b3, e3, h5⟩ := square_ok h2 (by omega) h3 hn h4
  refine ⟨b3, n, sq, ?_, h5.mono (by omega)⟩
  unfold q_law_0 q_law_1 q_law_2
  generalize m__law_of = F1 at *
  generalize m__law_numbers = F2 at *
  generalize m__law_square_so = F3 at *
  simp only [p_stepC, p_stepF, p_seq, p_asg, p_drop, p_ret, p_pass, p_break, p_cont, p_ifs, p_if, p_de, p_ed, p_eo, p_do, p_use, p_move, p_pk, p_c, p_op2, p_op1, p_b, p_andT, p_orT, p_notT, p_tru, p_andV, p_orV, p_notV, p_aug, p_par, p_lst, p_tup, p_upd, p_isN, p_notN, p_isi, p_sl, p_inone, p_isome, p_cb, p_call, p_callk, p_anil, p_acons, p_dnil, p_dcons, p_enil, p_econs, p_yes, p_gn, p_gnil, p_gcons, p_gtup, p_gsub, p_cres, n_crT, n_cr2, takeOps, putOps, isOwnL, n_f1, atAll, Op.at, Rs.map_ok, n_bind, n_ap1, n_ap2, n_apL, Rs.bind_exc, Rs.bind_bad, n_of, Rs.of_none, Option.bind_some, Option.bind_none, Option.join_some, Option.map_some,
  List.getElem?_cons_zero, List.getElem?_cons_succ, List.getElem?_nil, List.set_cons_zero, List.set_cons_succ, List.length_cons, List.length_nil, T.toD, bl?_d, Nat.zero_lt_succ, Nat.succ_lt_succ_iff, if_true, if_false, reduceIte, reduceCtorEq, List.map_cons, List.map_nil, List.cons_append, List.nil_append, List.replicate_succ, List.replicate_zero, Nat.reduceAdd, Nat.reduceSub, Nat.reduceLT, Nat.reduceLeDiff, Nat.reduceEqDiff, bAdd_ii, bSub_ii, bMul_small, bMod_pos, bFdiv_pos, bPow_small, Int.reduceToNat, Int.reducePow, decide_eq_true_eq, decide_true, decide_false, bLt_ii, bGe_ii, bGt_ii, bLe_ii, bEq_ii, bNe_ii, bInt_i, bLen_l, bLen_d, bLen_ro, bLen_t, bList_l, bList_d, bList_ro, bList_t, bTuple_l, bTuple_d, bTuple_t, uAppend_one, uInsert_one, uPopAt_one, outs, aHas, aNo, aOne, aOr, bIx_l, bIx_d, bIx_t, bIx_ro, bTru, atI_lit, ixN_lit, bSl_l, bSl_d, bSl_ro, isi_l, isi_d, isi_t, isi_i, isi_b, isi_s, isi_n, Rs.env_ok, fSeq_l, fSeq_d, fSeq_ro, fSeq_t, fZip_ll, fZip_ld, fZip_dl, fZip_dd, fZip_tt, fEnum_l, fEnum_d, bIsN_of, bNotN_of, isNon_i, isNon_b, isNon_s, isNon_l, isNon_t, isNon_n, Tn.any, Tn.sub, eq_self, Bool.or_self, Bool.and_self, Bool.or_false, ne_eq, not_true, not_false_eq_true, and_self, and_true, true_and, opsFree, List.all_cons, List.all_nil, bEq_bb, bEq_ss, bNe_bb, bNe_ss, Bool.and_true, Bool.not_true, Bool.not_false, Bool.false_eq_true, List.any_cons, List.any_nil, Nat.reduceBEq, Bool.or_false, Bool.or_true, Bool.false_or, Bool.true_and, Bool.false_and, wipeE, unwipeE, sizeLine_val, e1, e2, e3]
end NS
namespace NS
open PySem L2 LA
theorem seq_nx3 {a b c d : MS} {env e : Env} (h : mSeq a (mSeq b (mSeq c mNx)) env = .ok .nx e) : mSeq a (mSeq b (mSeq c d)) env = d e := by
  rw [p_seq] at h ⊢
  cases e1 : a env with
  | bad => rw [e1] at h; cases h
  | exc x e' => rw [e1] at h; cases h
  | ok f e' =>
    rw [e1] at h
    rw [n_bind] at h ⊢
    cases f with
    | nx => exact seq_nx2 h
    | _ => cases h
theorem copy8 {rows : List Row} (hl : rows.length ≤ 1000) (a b c d e f g h i : Option T) : compGo [8] (gN 8) mYes (mED (mCB (f1 bList) (aCons (mPk 8) aNil))) (dM rows) [a, b, c, d, e, f, g, h, none, i] [] = .ok (dM rows) [a, b, c, d, e, f, g, h, none, i] := by
  refine (comp_mapW dR (fun r => some (dR r)) rows [] (fun r hr' => ?_) (by rw [sizeLine_val]; simp only [List.length_nil]; omega)).trans (by rw [List.nil_append, filterMap_all]; rfl)
  unfold dR; simp only [p_stepC, p_stepF, p_seq, p_asg, p_drop, p_ret, p_pass, p_break, p_cont, p_ifs, p_if, p_de, p_ed, p_eo, p_do, p_use, p_move, p_pk, p_c, p_op2, p_op1, p_b, p_andT, p_orT, p_notT, p_tru, p_andV, p_orV, p_notV, p_aug, p_par, p_lst, p_tup, p_upd, p_isN, p_notN, p_isi, p_sl, p_inone, p_isome, p_cb, p_call, p_callk, p_anil, p_acons, p_dnil, p_dcons, p_enil, p_econs, p_yes, p_gn, p_gnil, p_gcons, p_gtup, p_gsub, p_cres, n_crT, n_cr2, takeOps, putOps, isOwnL, n_f1, atAll, Op.at, Rs.map_ok, n_bind, n_ap1, n_ap2, n_apL, Rs.bind_exc, Rs.bind_bad, n_of, Rs.of_none, Option.bind_some, Option.bind_none, Option.join_some, Option.map_some,
  List.getElem?_cons_zero, List.getElem?_cons_succ, List.getElem?_nil, List.set_cons_zero, List.set_cons_succ, List.length_cons, List.length_nil, T.toD, bl?_d, Nat.zero_lt_succ, Nat.succ_lt_succ_iff, if_true, if_false, reduceIte, reduceCtorEq, List.map_cons, List.map_nil, List.cons_append, List.nil_append, List.replicate_succ, List.replicate_zero, Nat.reduceAdd, Nat.reduceSub, Nat.reduceLT, Nat.reduceLeDiff, Nat.reduceEqDiff, bAdd_ii, bSub_ii, bMul_small, bMod_pos, bFdiv_pos, bPow_small, Int.reduceToNat, Int.reducePow, decide_eq_true_eq, decide_true, decide_false, bLt_ii, bGe_ii, bGt_ii, bLe_ii, bEq_ii, bNe_ii, bInt_i, bLen_l, bLen_d, bLen_ro, bLen_t, bList_l, bList_d, bList_ro, bList_t, bTuple_l, bTuple_d, bTuple_t, uAppend_one, uInsert_one, uPopAt_one, outs, aHas, aNo, aOne, aOr, bIx_l, bIx_d, bIx_t, bIx_ro, bTru, atI_lit, ixN_lit, bSl_l, bSl_d, bSl_ro, isi_l, isi_d, isi_t, isi_i, isi_b, isi_s, isi_n, Rs.env_ok, fSeq_l, fSeq_d, fSeq_ro, fSeq_t, fZip_ll, fZip_ld, fZip_dl, fZip_dd, fZip_tt, fEnum_l, fEnum_d, bIsN_of, bNotN_of, isNon_i, isNon_b, isNon_s, isNon_l, isNon_t, isNon_n, Tn.any, Tn.sub, eq_self, Bool.or_self, Bool.and_self, Bool.or_false, ne_eq, not_true, not_false_eq_true, and_self, and_true, true_and, opsFree, List.all_cons, List.all_nil, bEq_bb, bEq_ss, bNe_bb, bNe_ss, Bool.and_true, Bool.not_true, Bool.not_false, Bool.false_eq_true, List.any_cons, List.any_nil, Nat.reduceBEq, Bool.or_false, Bool.or_true, Bool.false_or, Bool.true_and, Bool.false_and, wipeE, unwipeE]
theorem lap_b {k : Nat} {b : List D} (hb : BagOk k b) (hk : k + 5000 < 2 ^ 39) (s o2 o3 o4 o5 o6 o7 o9 : Option T) :
    ∃ b', ∃ p3 p5 p6 p7 p9, (mSeq q_law_3 (mSeq q_law_4 (mSeq q_law_5 (mSeq q_law_6 (mSeq q_law_7 (mSeq q_law_8 (mSeq q_law_9 q_law_10))))))) [s, some (.l b), o2, o3, o4, o5, o6, o7, none, o9] = .ok .nx [s, some (.l b'), o2, p3, o4, p5, p6, p7, none, p9] ∧ BagOk (k + 600) b' := by
  obtain ⟨b1, m, e1, h1, h2, h3⟩ := draw_ok (s := 7) hb (by omega) (by omega) (by omega)
  obtain ⟨m, rfl⟩ := Int.eq_ofNat_of_zero_le h2
  obtain ⟨b2, r, hr, e2, h4⟩ := of_ok (xs := [D.int 3, .int 4, .int 2, .int 5, .int 6, .int 1, .int 0]) h1 (by omega) (by simp) (by decide)
  obtain ⟨n, hn, en⟩ := sizes2 r hr
  rw [en] at e2
  obtain ⟨b3, its, e3, h5, h6, h7⟩ := numbers_ok (many := m) (size := n) h4 (by omega) (by omega) (by omega)
  obtain ⟨q, e4, r4⟩ := count_ok (e := 700) h7.len (by omega) (by omega) (by omega) h7.abs
  obtain ⟨q1, e5, r5⟩ := ind_ok (e := 700) (.d its) h7.len (by omega) (by omega) (by omega) h7.abs
  have t1 : q1 = q := r5.one r4
  subst t1
  have e6 := like_int (q1 : Int)
  have e7 := like_ok 6 _ (dp_rows its (by omega) fun r hr => by rw [h7.len r hr]; omega) _ _ (.d _) (.d _)
  have e8 := turned_ok (rows := its) (n := n) h7.len (by omega) (by omega)
  obtain ⟨q2, e9, r9⟩ := ind_ok (e := 700) (.d (turn its n)) turn_row (by omega) (by rw [turn_len]; omega) (by omega) (turn_abs h7.abs)
  rw [turn_len] at r9
  have t2 : q2 = q1 := r9.one (rk_turn r4)
  subst t2
  obtain ⟨q3, e10, r10⟩ := ind_ok (e := 700) (n := n) (.d (its ++ its)) (fun r hr => (List.mem_append.mp hr).elim (h7.len r) (h7.len r)) (by omega) (by rw [List.length_append]; omega) (by omega) (fun r hr => (List.mem_append.mp hr).elim (h7.abs r) (h7.abs r))
  have t3 : q3 = q2 := r10.one (rk_twice r4)
  subst t3
  obtain ⟨q4, e11, r11⟩ := ind_ok (e := 700) (n := n) (.d (its ++ [List.replicate n 0])) (fun r hr => (List.mem_append.mp hr).elim (h7.len r) fun h => by rw [List.mem_singleton.mp h, List.length_replicate]) (by omega) (by rw [List.length_append]; simp only [List.length_cons, List.length_nil]; omega) (by omega) (fun r hr => (List.mem_append.mp hr).elim (h7.abs r) fun h j => by rw [List.mem_singleton.mp h]; exact at0_abs (fun x hx => by rw [(List.mem_replicate.mp hx).2]; exact Nat.zero_le _) j)
  have t4 : q4 = q3 := r11.one (rk_zero r4)
  subst t4
  have c8 := copy8 (rows := its) (by omega) s (some (.l b3)) o2 (some (.d (.int (n : Int)))) o4 (some (.d (.int (m : Int)))) (some (.d (.lst (dM its)))) o7 o9
  have a1 : bAdd (.d (.lst (dM its))) (.d (.lst (dM its))) = some (.l (dM (its ++ its))) := by
    rw [bAdd_dd, if_pos (by rw [dM_len, sizeLine_val]; omega), dM_app]
  have a2 : bAdd (.d (.lst (dM its))) (.l [dR (List.replicate n 0)]) = some (.l (dM (its ++ [List.replicate n 0]))) := by
    rw [bAdd_dl, if_pos (by rw [dM_len, sizeLine_val]; simp only [List.length_cons, List.length_nil]; omega), dM_app]; rfl
  have a3 : bMul (.l [.int 0]) (.d (.int (n : Int))) = some (.l ((List.replicate n (0 : Int)).map D.int)) := by
    rw [bMul_li, if_pos (by refine ⟨by omega, by omega, ?_⟩; rw [sizeLine_val]; simp only [List.length_cons, List.length_nil]; omega), Int.toNat_natCast, rep_flat]
  refine ⟨b3, some (.d (.int (n : Int))), some (.d (.int (m : Int))), some (.d (.lst (dM its))), some (.d (.lst (dM its))), some (.d (.int (q4 : Int))), ?_, h5.mono (by omega)⟩
  have s1 : (mSeq q_law_3 (mSeq q_law_4 mNx)) [s, some (.l b), o2, o3, o4, o5, o6, o7, none, o9] = .ok .nx [s, some (.l b3), o2, some (.d (.int (n : Int))), o4, some (.d (.int (m : Int))), some (.d (.lst (dM its))), o7, none, o9] := by
    unfold q_law_3 q_law_4
    generalize m__law_of = F1 at *
    generalize m__law_numbers = F2 at *
    simp only [p_stepC, p_stepF, p_seq, p_asg, p_drop, p_ret, p_pass, p_break, p_cont, p_ifs, p_if, p_de, p_ed, p_eo, p_do, p_use, p_move, p_pk, p_c, p_op2, p_op1, p_b, p_andT, p_orT, p_notT, p_tru, p_andV, p_orV, p_notV, p_aug, p_par, p_lst, p_tup, p_upd, p_isN, p_notN, p_isi, p_sl, p_inone, p_isome, p_cb, p_call, p_callk, p_anil, p_acons, p_dnil, p_dcons, p_enil, p_econs, p_yes, p_gn, p_gnil, p_gcons, p_gtup, p_gsub, p_cres, n_crT, n_cr2, takeOps, putOps, isOwnL, n_f1, atAll, Op.at, Rs.map_ok, n_bind, n_ap1, n_ap2, n_apL, Rs.bind_exc, Rs.bind_bad, n_of, Rs.of_none, Option.bind_some, Option.bind_none, Option.join_some, Option.map_some,
  List.getElem?_cons_zero, List.getElem?_cons_succ, List.getElem?_nil, List.set_cons_zero, List.set_cons_succ, List.length_cons, List.length_nil, T.toD, bl?_d, Nat.zero_lt_succ, Nat.succ_lt_succ_iff, if_true, if_false, reduceIte, reduceCtorEq, List.map_cons, List.map_nil, List.cons_append, List.nil_append, List.replicate_succ, List.replicate_zero, Nat.reduceAdd, Nat.reduceSub, Nat.reduceLT, Nat.reduceLeDiff, Nat.reduceEqDiff, bAdd_ii, bSub_ii, bMul_small, bMod_pos, bFdiv_pos, bPow_small, Int.reduceToNat, Int.reducePow, decide_eq_true_eq, decide_true, decide_false, bLt_ii, bGe_ii, bGt_ii, bLe_ii, bEq_ii, bNe_ii, bInt_i, bLen_l, bLen_d, bLen_ro, bLen_t, bList_l, bList_d, bList_ro, bList_t, bTuple_l, bTuple_d, bTuple_t, uAppend_one, uInsert_one, uPopAt_one, outs, aHas, aNo, aOne, aOr, bIx_l, bIx_d, bIx_t, bIx_ro, bTru, atI_lit, ixN_lit, bSl_l, bSl_d, bSl_ro, isi_l, isi_d, isi_t, isi_i, isi_b, isi_s, isi_n, Rs.env_ok, fSeq_l, fSeq_d, fSeq_ro, fSeq_t, fZip_ll, fZip_ld, fZip_dl, fZip_dd, fZip_tt, fEnum_l, fEnum_d, bIsN_of, bNotN_of, isNon_i, isNon_b, isNon_s, isNon_l, isNon_t, isNon_n, Tn.any, Tn.sub, eq_self, Bool.or_self, Bool.and_self, Bool.or_false, ne_eq, not_true, not_false_eq_true, and_self, and_true, true_and, opsFree, List.all_cons, List.all_nil, bEq_bb, bEq_ss, bNe_bb, bNe_ss, Bool.and_true, Bool.not_true, Bool.not_false, Bool.false_eq_true, List.any_cons, List.any_nil, Nat.reduceBEq, Bool.or_false, Bool.or_true, Bool.false_or, Bool.true_and, Bool.false_and, wipeE, unwipeE, sizeLine_val, e1, e2, e3]
  have s2 : (mSeq q_law_5 (mSeq q_law_6 mNx)) [s, some (.l b3), o2, some (.d (.int (n : Int))), o4, some (.d (.int (m : Int))), some (.d (.lst (dM its))), o7, none, o9] = .ok .nx [s, some (.l b3), o2, some (.d (.int (n : Int))), o4, some (.d (.int (m : Int))), some (.d (.lst (dM its))), some (.d (.lst (dM its))), none, some (.d (.int (q4 : Int)))] := by
    unfold q_law_5 q_law_6
    generalize m__law_count = F1 at *
    simp only [p_stepC, p_stepF, p_seq, p_asg, p_drop, p_ret, p_pass, p_break, p_cont, p_ifs, p_if, p_de, p_ed, p_eo, p_do, p_use, p_move, p_pk, p_c, p_op2, p_op1, p_b, p_andT, p_orT, p_notT, p_tru, p_andV, p_orV, p_notV, p_aug, p_par, p_lst, p_tup, p_upd, p_isN, p_notN, p_isi, p_sl, p_inone, p_isome, p_cb, p_call, p_callk, p_anil, p_acons, p_dnil, p_dcons, p_enil, p_econs, p_yes, p_gn, p_gnil, p_gcons, p_gtup, p_gsub, p_cres, n_crT, n_cr2, takeOps, putOps, isOwnL, n_f1, atAll, Op.at, Rs.map_ok, n_bind, n_ap1, n_ap2, n_apL, Rs.bind_exc, Rs.bind_bad, n_of, Rs.of_none, Option.bind_some, Option.bind_none, Option.join_some, Option.map_some,
  List.getElem?_cons_zero, List.getElem?_cons_succ, List.getElem?_nil, List.set_cons_zero, List.set_cons_succ, List.length_cons, List.length_nil, T.toD, bl?_d, Nat.zero_lt_succ, Nat.succ_lt_succ_iff, if_true, if_false, reduceIte, reduceCtorEq, List.map_cons, List.map_nil, List.cons_append, List.nil_append, List.replicate_succ, List.replicate_zero, Nat.reduceAdd, Nat.reduceSub, Nat.reduceLT, Nat.reduceLeDiff, Nat.reduceEqDiff, bAdd_ii, bSub_ii, bMul_small, bMod_pos, bFdiv_pos, bPow_small, Int.reduceToNat, Int.reducePow, decide_eq_true_eq, decide_true, decide_false, bLt_ii, bGe_ii, bGt_ii, bLe_ii, bEq_ii, bNe_ii, bInt_i, bLen_l, bLen_d, bLen_ro, bLen_t, bList_l, bList_d, bList_ro, bList_t, bTuple_l, bTuple_d, bTuple_t, uAppend_one, uInsert_one, uPopAt_one, outs, aHas, aNo, aOne, aOr, bIx_l, bIx_d, bIx_t, bIx_ro, bTru, atI_lit, ixN_lit, bSl_l, bSl_d, bSl_ro, isi_l, isi_d, isi_t, isi_i, isi_b, isi_s, isi_n, Rs.env_ok, fSeq_l, fSeq_d, fSeq_ro, fSeq_t, fZip_ll, fZip_ld, fZip_dl, fZip_dd, fZip_tt, fEnum_l, fEnum_d, bIsN_of, bNotN_of, isNon_i, isNon_b, isNon_s, isNon_l, isNon_t, isNon_n, Tn.any, Tn.sub, eq_self, Bool.or_self, Bool.and_self, Bool.or_false, ne_eq, not_true, not_false_eq_true, and_self, and_true, true_and, opsFree, List.all_cons, List.all_nil, bEq_bb, bEq_ss, bNe_bb, bNe_ss, Bool.and_true, Bool.not_true, Bool.not_false, Bool.false_eq_true, List.any_cons, List.any_nil, Nat.reduceBEq, Bool.or_false, Bool.or_true, Bool.false_or, Bool.true_and, Bool.false_and, wipeE, unwipeE, p_comp, c8, e4]
  have s3 : (mSeq q_law_7 (mSeq q_law_8 mNx)) [s, some (.l b3), o2, some (.d (.int (n : Int))), o4, some (.d (.int (m : Int))), some (.d (.lst (dM its))), some (.d (.lst (dM its))), none, some (.d (.int (q4 : Int)))] = .ok .nx [s, some (.l b3), o2, some (.d (.int (n : Int))), o4, some (.d (.int (m : Int))), some (.d (.lst (dM its))), some (.d (.lst (dM its))), none, some (.d (.int (q4 : Int)))] := by
    unfold q_law_7 q_law_8
    generalize m_independent_rows = F1 at *
    generalize m__law_turned = F2 at *
    generalize m__law_like 6 = F3 at *
    by_cases z : (0 : Int) < (m : Int)
    · simp only [p_stepC, p_stepF, p_seq, p_asg, p_drop, p_ret, p_pass, p_break, p_cont, p_ifs, p_if, p_de, p_ed, p_eo, p_do, p_use, p_move, p_pk, p_c, p_op2, p_op1, p_b, p_andT, p_orT, p_notT, p_tru, p_andV, p_orV, p_notV, p_aug, p_par, p_lst, p_tup, p_upd, p_isN, p_notN, p_isi, p_sl, p_inone, p_isome, p_cb, p_call, p_callk, p_anil, p_acons, p_dnil, p_dcons, p_enil, p_econs, p_yes, p_gn, p_gnil, p_gcons, p_gtup, p_gsub, p_cres, n_crT, n_cr2, takeOps, putOps, isOwnL, n_f1, atAll, Op.at, Rs.map_ok, n_bind, n_ap1, n_ap2, n_apL, Rs.bind_exc, Rs.bind_bad, n_of, Rs.of_none, Option.bind_some, Option.bind_none, Option.join_some, Option.map_some,
  List.getElem?_cons_zero, List.getElem?_cons_succ, List.getElem?_nil, List.set_cons_zero, List.set_cons_succ, List.length_cons, List.length_nil, T.toD, bl?_d, Nat.zero_lt_succ, Nat.succ_lt_succ_iff, if_true, if_false, reduceIte, reduceCtorEq, List.map_cons, List.map_nil, List.cons_append, List.nil_append, List.replicate_succ, List.replicate_zero, Nat.reduceAdd, Nat.reduceSub, Nat.reduceLT, Nat.reduceLeDiff, Nat.reduceEqDiff, bAdd_ii, bSub_ii, bMul_small, bMod_pos, bFdiv_pos, bPow_small, Int.reduceToNat, Int.reducePow, decide_eq_true_eq, decide_true, decide_false, bLt_ii, bGe_ii, bGt_ii, bLe_ii, bEq_ii, bNe_ii, bInt_i, bLen_l, bLen_d, bLen_ro, bLen_t, bList_l, bList_d, bList_ro, bList_t, bTuple_l, bTuple_d, bTuple_t, uAppend_one, uInsert_one, uPopAt_one, outs, aHas, aNo, aOne, aOr, bIx_l, bIx_d, bIx_t, bIx_ro, bTru, atI_lit, ixN_lit, bSl_l, bSl_d, bSl_ro, isi_l, isi_d, isi_t, isi_i, isi_b, isi_s, isi_n, Rs.env_ok, fSeq_l, fSeq_d, fSeq_ro, fSeq_t, fZip_ll, fZip_ld, fZip_dl, fZip_dd, fZip_tt, fEnum_l, fEnum_d, bIsN_of, bNotN_of, isNon_i, isNon_b, isNon_s, isNon_l, isNon_t, isNon_n, Tn.any, Tn.sub, eq_self, Bool.or_self, Bool.and_self, Bool.or_false, ne_eq, not_true, not_false_eq_true, and_self, and_true, true_and, opsFree, List.all_cons, List.all_nil, bEq_bb, bEq_ss, bNe_bb, bNe_ss, Bool.and_true, Bool.not_true, Bool.not_false, Bool.false_eq_true, List.any_cons, List.any_nil, Nat.reduceBEq, Bool.or_false, Bool.or_true, Bool.false_or, Bool.true_and, Bool.false_and, wipeE, unwipeE, e5, e6, e7, e8, e9, z]
    · simp only [p_stepC, p_stepF, p_seq, p_asg, p_drop, p_ret, p_pass, p_break, p_cont, p_ifs, p_if, p_de, p_ed, p_eo, p_do, p_use, p_move, p_pk, p_c, p_op2, p_op1, p_b, p_andT, p_orT, p_notT, p_tru, p_andV, p_orV, p_notV, p_aug, p_par, p_lst, p_tup, p_upd, p_isN, p_notN, p_isi, p_sl, p_inone, p_isome, p_cb, p_call, p_callk, p_anil, p_acons, p_dnil, p_dcons, p_enil, p_econs, p_yes, p_gn, p_gnil, p_gcons, p_gtup, p_gsub, p_cres, n_crT, n_cr2, takeOps, putOps, isOwnL, n_f1, atAll, Op.at, Rs.map_ok, n_bind, n_ap1, n_ap2, n_apL, Rs.bind_exc, Rs.bind_bad, n_of, Rs.of_none, Option.bind_some, Option.bind_none, Option.join_some, Option.map_some,
  List.getElem?_cons_zero, List.getElem?_cons_succ, List.getElem?_nil, List.set_cons_zero, List.set_cons_succ, List.length_cons, List.length_nil, T.toD, bl?_d, Nat.zero_lt_succ, Nat.succ_lt_succ_iff, if_true, if_false, reduceIte, reduceCtorEq, List.map_cons, List.map_nil, List.cons_append, List.nil_append, List.replicate_succ, List.replicate_zero, Nat.reduceAdd, Nat.reduceSub, Nat.reduceLT, Nat.reduceLeDiff, Nat.reduceEqDiff, bAdd_ii, bSub_ii, bMul_small, bMod_pos, bFdiv_pos, bPow_small, Int.reduceToNat, Int.reducePow, decide_eq_true_eq, decide_true, decide_false, bLt_ii, bGe_ii, bGt_ii, bLe_ii, bEq_ii, bNe_ii, bInt_i, bLen_l, bLen_d, bLen_ro, bLen_t, bList_l, bList_d, bList_ro, bList_t, bTuple_l, bTuple_d, bTuple_t, uAppend_one, uInsert_one, uPopAt_one, outs, aHas, aNo, aOne, aOr, bIx_l, bIx_d, bIx_t, bIx_ro, bTru, atI_lit, ixN_lit, bSl_l, bSl_d, bSl_ro, isi_l, isi_d, isi_t, isi_i, isi_b, isi_s, isi_n, Rs.env_ok, fSeq_l, fSeq_d, fSeq_ro, fSeq_t, fZip_ll, fZip_ld, fZip_dl, fZip_dd, fZip_tt, fEnum_l, fEnum_d, bIsN_of, bNotN_of, isNon_i, isNon_b, isNon_s, isNon_l, isNon_t, isNon_n, Tn.any, Tn.sub, eq_self, Bool.or_self, Bool.and_self, Bool.or_false, ne_eq, not_true, not_false_eq_true, and_self, and_true, true_and, opsFree, List.all_cons, List.all_nil, bEq_bb, bEq_ss, bNe_bb, bNe_ss, Bool.and_true, Bool.not_true, Bool.not_false, Bool.false_eq_true, List.any_cons, List.any_nil, Nat.reduceBEq, Bool.or_false, Bool.or_true, Bool.false_or, Bool.true_and, Bool.false_and, wipeE, unwipeE, e5, e6, e7, z]
  have s4 : (mSeq q_law_9 q_law_10) [s, some (.l b3), o2, some (.d (.int (n : Int))), o4, some (.d (.int (m : Int))), some (.d (.lst (dM its))), some (.d (.lst (dM its))), none, some (.d (.int (q4 : Int)))] = .ok .nx [s, some (.l b3), o2, some (.d (.int (n : Int))), o4, some (.d (.int (m : Int))), some (.d (.lst (dM its))), some (.d (.lst (dM its))), none, some (.d (.int (q4 : Int)))] := by
    unfold q_law_9 q_law_10
    unfold dR at a2
    generalize m_independent_rows = F1 at *
    generalize m__law_like 6 = F3 at *
    by_cases z : (0 : Int) < (n : Int)
    · simp only [p_stepC, p_stepF, p_seq, p_asg, p_drop, p_ret, p_pass, p_break, p_cont, p_ifs, p_if, p_de, p_ed, p_eo, p_do, p_use, p_move, p_pk, p_c, p_op2, p_op1, p_b, p_andT, p_orT, p_notT, p_tru, p_andV, p_orV, p_notV, p_aug, p_par, p_lst, p_tup, p_upd, p_isN, p_notN, p_isi, p_sl, p_inone, p_isome, p_cb, p_call, p_callk, p_anil, p_acons, p_dnil, p_dcons, p_enil, p_econs, p_yes, p_gn, p_gnil, p_gcons, p_gtup, p_gsub, p_cres, n_crT, n_cr2, takeOps, putOps, isOwnL, n_f1, atAll, Op.at, Rs.map_ok, n_bind, n_ap1, n_ap2, n_apL, Rs.bind_exc, Rs.bind_bad, n_of, Rs.of_none, Option.bind_some, Option.bind_none, Option.join_some, Option.map_some,
  List.getElem?_cons_zero, List.getElem?_cons_succ, List.getElem?_nil, List.set_cons_zero, List.set_cons_succ, List.length_cons, List.length_nil, T.toD, bl?_d, Nat.zero_lt_succ, Nat.succ_lt_succ_iff, if_true, if_false, reduceIte, reduceCtorEq, List.map_cons, List.map_nil, List.cons_append, List.nil_append, List.replicate_succ, List.replicate_zero, Nat.reduceAdd, Nat.reduceSub, Nat.reduceLT, Nat.reduceLeDiff, Nat.reduceEqDiff, bAdd_ii, bSub_ii, bMul_small, bMod_pos, bFdiv_pos, bPow_small, Int.reduceToNat, Int.reducePow, decide_eq_true_eq, decide_true, decide_false, bLt_ii, bGe_ii, bGt_ii, bLe_ii, bEq_ii, bNe_ii, bInt_i, bLen_l, bLen_d, bLen_ro, bLen_t, bList_l, bList_d, bList_ro, bList_t, bTuple_l, bTuple_d, bTuple_t, uAppend_one, uInsert_one, uPopAt_one, outs, aHas, aNo, aOne, aOr, bIx_l, bIx_d, bIx_t, bIx_ro, bTru, atI_lit, ixN_lit, bSl_l, bSl_d, bSl_ro, isi_l, isi_d, isi_t, isi_i, isi_b, isi_s, isi_n, Rs.env_ok, fSeq_l, fSeq_d, fSeq_ro, fSeq_t, fZip_ll, fZip_ld, fZip_dl, fZip_dd, fZip_tt, fEnum_l, fEnum_d, bIsN_of, bNotN_of, isNon_i, isNon_b, isNon_s, isNon_l, isNon_t, isNon_n, Tn.any, Tn.sub, eq_self, Bool.or_self, Bool.and_self, Bool.or_false, ne_eq, not_true, not_false_eq_true, and_self, and_true, true_and, opsFree, List.all_cons, List.all_nil, bEq_bb, bEq_ss, bNe_bb, bNe_ss, Bool.and_true, Bool.not_true, Bool.not_false, Bool.false_eq_true, List.any_cons, List.any_nil, Nat.reduceBEq, Bool.or_false, Bool.or_true, Bool.false_or, Bool.true_and, Bool.false_and, wipeE, unwipeE, a1, a2, a3, e10, e11, e6, z, sizeLine_val]
    · simp only [p_stepC, p_stepF, p_seq, p_asg, p_drop, p_ret, p_pass, p_break, p_cont, p_ifs, p_if, p_de, p_ed, p_eo, p_do, p_use, p_move, p_pk, p_c, p_op2, p_op1, p_b, p_andT, p_orT, p_notT, p_tru, p_andV, p_orV, p_notV, p_aug, p_par, p_lst, p_tup, p_upd, p_isN, p_notN, p_isi, p_sl, p_inone, p_isome, p_cb, p_call, p_callk, p_anil, p_acons, p_dnil, p_dcons, p_enil, p_econs, p_yes, p_gn, p_gnil, p_gcons, p_gtup, p_gsub, p_cres, n_crT, n_cr2, takeOps, putOps, isOwnL, n_f1, atAll, Op.at, Rs.map_ok, n_bind, n_ap1, n_ap2, n_apL, Rs.bind_exc, Rs.bind_bad, n_of, Rs.of_none, Option.bind_some, Option.bind_none, Option.join_some, Option.map_some,
  List.getElem?_cons_zero, List.getElem?_cons_succ, List.getElem?_nil, List.set_cons_zero, List.set_cons_succ, List.length_cons, List.length_nil, T.toD, bl?_d, Nat.zero_lt_succ, Nat.succ_lt_succ_iff, if_true, if_false, reduceIte, reduceCtorEq, List.map_cons, List.map_nil, List.cons_append, List.nil_append, List.replicate_succ, List.replicate_zero, Nat.reduceAdd, Nat.reduceSub, Nat.reduceLT, Nat.reduceLeDiff, Nat.reduceEqDiff, bAdd_ii, bSub_ii, bMul_small, bMod_pos, bFdiv_pos, bPow_small, Int.reduceToNat, Int.reducePow, decide_eq_true_eq, decide_true, decide_false, bLt_ii, bGe_ii, bGt_ii, bLe_ii, bEq_ii, bNe_ii, bInt_i, bLen_l, bLen_d, bLen_ro, bLen_t, bList_l, bList_d, bList_ro, bList_t, bTuple_l, bTuple_d, bTuple_t, uAppend_one, uInsert_one, uPopAt_one, outs, aHas, aNo, aOne, aOr, bIx_l, bIx_d, bIx_t, bIx_ro, bTru, atI_lit, ixN_lit, bSl_l, bSl_d, bSl_ro, isi_l, isi_d, isi_t, isi_i, isi_b, isi_s, isi_n, Rs.env_ok, fSeq_l, fSeq_d, fSeq_ro, fSeq_t, fZip_ll, fZip_ld, fZip_dl, fZip_dd, fZip_tt, fEnum_l, fEnum_d, bIsN_of, bNotN_of, isNon_i, isNon_b, isNon_s, isNon_l, isNon_t, isNon_n, Tn.any, Tn.sub, eq_self, Bool.or_self, Bool.and_self, Bool.or_false, ne_eq, not_true, not_false_eq_true, and_self, and_true, true_and, opsFree, List.all_cons, List.all_nil, bEq_bb, bEq_ss, bNe_bb, bNe_ss, Bool.and_true, Bool.not_true, Bool.not_false, Bool.false_eq_true, List.any_cons, List.any_nil, Nat.reduceBEq, Bool.or_false, Bool.or_true, Bool.false_or, Bool.true_and, Bool.false_and, wipeE, unwipeE, a1, e10, e6, z]
  rw [seq_nx2 s1, seq_nx2 s2, seq_nx2 s3]
  exact s4
theorem outs_d {n l : Nat} {A : AS} {m : MS} {x : D} {t : T} {as : Env} (h : mFn n l A m [.d x] = .ok t as) : as = [some (.d x)] := by
  unfold mFn at h
  split at h
  · split at h
    · cases h; rfl
    · cases h; rfl
    · cases h
    · cases h
  · cases h
theorem start_ok (b : List D) (s : Option T) : q_law_13 [s, some (.l b), none, none, none, none, none, none, none, none] = .ok .nx [s, some (.l b), none, none, none, none, none, none, none, none] := by
  have e1 := det_ok (e := 0) (n := 0) (.d []) rfl (fun r h => (List.not_mem_nil h).elim) (by omega) (by omega) (fun r h => (List.not_mem_nil h).elim)
  have e2 := det_ok (e := 0) (n := 0) (.t []) rfl (fun r h => (List.not_mem_nil h).elim) (by omega) (by omega) (fun r h => (List.not_mem_nil h).elim)
  obtain ⟨k1, e3, r3⟩ := ind_ok (e := 0) (n := 0) (.d []) (fun r h => (List.not_mem_nil h).elim) (by omega) (by simp) (by omega) (fun r h => (List.not_mem_nil h).elim)
  obtain ⟨k2, e4, r4⟩ := ind_ok (e := 0) (n := 0) (.t []) (fun r h => (List.not_mem_nil h).elim) (by omega) (by simp) (by omega) (fun r h => (List.not_mem_nil h).elim)
  have z1 : k1 = 0 := r3.one (Rk.zero fun i j hi _ => absurd hi (by simp))
  have z2 : k2 = 0 := r4.one (Rk.zero fun i j hi _ => absurd hi (by simp))
  subst z1 z2
  have d0 : det 0 (mx []) = 1 := rfl
  rw [d0] at e1 e2
  have m0 : dM [] = [] := rfl
  have m1 : ([] : List Row).map dT = [] := rfl
  rw [m0] at e1 e3
  rw [m1] at e2 e4
  have e5 := like_ok 6 (.lst [.int 1, .int 0, .int 0, .int 1]) (.lst 5 _ (by rw [sizeLine_val]; simp only [List.length_cons, List.length_nil]; omega) fun x hx => by
    simp only [List.mem_cons, List.not_mem_nil, or_false] at hx
    rcases hx with rfl | rfl | rfl | rfl <;> exact .int 4 _) _ _ (.d _) (.d _)
  unfold q_law_13
  generalize m_independent_rows = F1 at *
  generalize m_determinant = F2 at *
  generalize m__law_like 6 = F3 at *
  simp only [p_stepC, p_stepF, p_seq, p_asg, p_drop, p_ret, p_pass, p_break, p_cont, p_ifs, p_if, p_de, p_ed, p_eo, p_do, p_use, p_move, p_pk, p_c, p_op2, p_op1, p_b, p_andT, p_orT, p_notT, p_tru, p_andV, p_orV, p_notV, p_aug, p_par, p_lst, p_tup, p_upd, p_isN, p_notN, p_isi, p_sl, p_inone, p_isome, p_cb, p_call, p_callk, p_anil, p_acons, p_dnil, p_dcons, p_enil, p_econs, p_yes, p_gn, p_gnil, p_gcons, p_gtup, p_gsub, p_cres, n_crT, n_cr2, takeOps, putOps, isOwnL, n_f1, atAll, Op.at, Rs.map_ok, n_bind, n_ap1, n_ap2, n_apL, Rs.bind_exc, Rs.bind_bad, n_of, Rs.of_none, Option.bind_some, Option.bind_none, Option.join_some, Option.map_some,
  List.getElem?_cons_zero, List.getElem?_cons_succ, List.getElem?_nil, List.set_cons_zero, List.set_cons_succ, List.length_cons, List.length_nil, T.toD, bl?_d, Nat.zero_lt_succ, Nat.succ_lt_succ_iff, if_true, if_false, reduceIte, reduceCtorEq, List.map_cons, List.map_nil, List.cons_append, List.nil_append, List.replicate_succ, List.replicate_zero, Nat.reduceAdd, Nat.reduceSub, Nat.reduceLT, Nat.reduceLeDiff, Nat.reduceEqDiff, bAdd_ii, bSub_ii, bMul_small, bMod_pos, bFdiv_pos, bPow_small, Int.reduceToNat, Int.reducePow, decide_eq_true_eq, decide_true, decide_false, bLt_ii, bGe_ii, bGt_ii, bLe_ii, bEq_ii, bNe_ii, bInt_i, bLen_l, bLen_d, bLen_ro, bLen_t, bList_l, bList_d, bList_ro, bList_t, bTuple_l, bTuple_d, bTuple_t, uAppend_one, uInsert_one, uPopAt_one, outs, aHas, aNo, aOne, aOr, bIx_l, bIx_d, bIx_t, bIx_ro, bTru, atI_lit, ixN_lit, bSl_l, bSl_d, bSl_ro, isi_l, isi_d, isi_t, isi_i, isi_b, isi_s, isi_n, Rs.env_ok, fSeq_l, fSeq_d, fSeq_ro, fSeq_t, fZip_ll, fZip_ld, fZip_dl, fZip_dd, fZip_tt, fEnum_l, fEnum_d, bIsN_of, bNotN_of, isNon_i, isNon_b, isNon_s, isNon_l, isNon_t, isNon_n, Tn.any, Tn.sub, eq_self, Bool.or_self, Bool.and_self, Bool.or_false, ne_eq, not_true, not_false_eq_true, and_self, and_true, true_and, opsFree, List.all_cons, List.all_nil, bEq_bb, bEq_ss, bNe_bb, bNe_ss, Bool.and_true, Bool.not_true, Bool.not_false, Bool.false_eq_true, List.any_cons, List.any_nil, Nat.reduceBEq, Bool.or_false, Bool.or_true, Bool.false_or, Bool.true_and, Bool.false_and, wipeE, unwipeE, sizeLine_val, e1, e2, e3, e4, Int.cast_ofNat_Int, e5]
theorem lap_ok {k : Nat} {b : List D} (hb : BagOk k b) (hk : k + 10000 < 2 ^ 39) (s o2 o3 o4 o5 o6 o7 o9 : Option T) (d : D) :
    ∃ b', ∃ p3 p4 p5 p6 p7 p9, stepF (gN 2) b_law_11 d [s, some (.l b), o2, o3, o4, o5, o6, o7, none, o9] = .ok .nx [s, some (.l b'), some (.d d), p3, p4, p5, p6, p7, none, p9] ∧ BagOk (k + 1200) b' := by
  obtain ⟨b1, n, sq, h1, h2⟩ := lap_a hb (by omega) s (some (.d d)) o3 o4 o5 o6 o7 o9
  obtain ⟨b2, p3, p5, p6, p7, p9, h3, h4⟩ := lap_b h2 (by omega) s (some (.d d)) (some (.d (.int (n : Int)))) (some (.d (.lst (dM sq)))) o5 o6 o7 o9
  refine ⟨b2, p3, some (.d (.lst (dM sq))), p5, p6, p7, p9, ?_, h4.mono (by omega)⟩
  have g2 : gN 2 (.d d) [s, some (.l b), o2, o3, o4, o5, o6, o7, none, o9] = .ok () [s, some (.l b), some (.d d), o3, o4, o5, o6, o7, none, o9] := by simp only [p_stepC, p_stepF, p_seq, p_asg, p_drop, p_ret, p_pass, p_break, p_cont, p_ifs, p_if, p_de, p_ed, p_eo, p_do, p_use, p_move, p_pk, p_c, p_op2, p_op1, p_b, p_andT, p_orT, p_notT, p_tru, p_andV, p_orV, p_notV, p_aug, p_par, p_lst, p_tup, p_upd, p_isN, p_notN, p_isi, p_sl, p_inone, p_isome, p_cb, p_call, p_callk, p_anil, p_acons, p_dnil, p_dcons, p_enil, p_econs, p_yes, p_gn, p_gnil, p_gcons, p_gtup, p_gsub, p_cres, n_crT, n_cr2, takeOps, putOps, isOwnL, n_f1, atAll, Op.at, Rs.map_ok, n_bind, n_ap1, n_ap2, n_apL, Rs.bind_exc, Rs.bind_bad, n_of, Rs.of_none, Option.bind_some, Option.bind_none, Option.join_some, Option.map_some,
  List.getElem?_cons_zero, List.getElem?_cons_succ, List.getElem?_nil, List.set_cons_zero, List.set_cons_succ, List.length_cons, List.length_nil, T.toD, bl?_d, Nat.zero_lt_succ, Nat.succ_lt_succ_iff, if_true, if_false, reduceIte, reduceCtorEq, List.map_cons, List.map_nil, List.cons_append, List.nil_append, List.replicate_succ, List.replicate_zero, Nat.reduceAdd, Nat.reduceSub, Nat.reduceLT, Nat.reduceLeDiff, Nat.reduceEqDiff, bAdd_ii, bSub_ii, bMul_small, bMod_pos, bFdiv_pos, bPow_small, Int.reduceToNat, Int.reducePow, decide_eq_true_eq, decide_true, decide_false, bLt_ii, bGe_ii, bGt_ii, bLe_ii, bEq_ii, bNe_ii, bInt_i, bLen_l, bLen_d, bLen_ro, bLen_t, bList_l, bList_d, bList_ro, bList_t, bTuple_l, bTuple_d, bTuple_t, uAppend_one, uInsert_one, uPopAt_one, outs, aHas, aNo, aOne, aOr, bIx_l, bIx_d, bIx_t, bIx_ro, bTru, atI_lit, ixN_lit, bSl_l, bSl_d, bSl_ro, isi_l, isi_d, isi_t, isi_i, isi_b, isi_s, isi_n, Rs.env_ok, fSeq_l, fSeq_d, fSeq_ro, fSeq_t, fZip_ll, fZip_ld, fZip_dl, fZip_dd, fZip_tt, fEnum_l, fEnum_d, bIsN_of, bNotN_of, isNon_i, isNon_b, isNon_s, isNon_l, isNon_t, isNon_n, Tn.any, Tn.sub, eq_self, Bool.or_self, Bool.and_self, Bool.or_false, ne_eq, not_true, not_false_eq_true, and_self, and_true, true_and, opsFree, List.all_cons, List.all_nil, bEq_bb, bEq_ss, bNe_bb, bNe_ss, Bool.and_true, Bool.not_true, Bool.not_false, Bool.false_eq_true, List.any_cons, List.any_nil, Nat.reduceBEq, Bool.or_false, Bool.or_true, Bool.false_or, Bool.true_and, Bool.false_and, wipeE, unwipeE]
  rw [p_stepF, g2, n_bind]
  unfold b_law_11
  rw [seq_nx3 h1]
  exact h3
theorem math : ∀ ns : List Int, ns.length ≤ 63 → ∃ as, m_law [.d (.ro (ns.map D.int))] = .ok (.d (.bl true)) as := by
  intro ns hns
  obtain ⟨b, as, e1, h1⟩ := bag_ok hns
  have ea := outs_d (show mFn _ _ _ mb__law_bag [.d (.ro (ns.map D.int))] = _ from e1)
  subst ea
  have s1 : q_law_12 [some (.d (.ro (ns.map D.int))), none, none, none, none, none, none, none, none, none] = .ok .nx [some (.d (.ro (ns.map D.int))), some (.l b), none, none, none, none, none, none, none, none] := by
    unfold q_law_12
    simp only [p_stepC, p_stepF, p_seq, p_asg, p_drop, p_ret, p_pass, p_break, p_cont, p_ifs, p_if, p_de, p_ed, p_eo, p_do, p_use, p_move, p_pk, p_c, p_op2, p_op1, p_b, p_andT, p_orT, p_notT, p_tru, p_andV, p_orV, p_notV, p_aug, p_par, p_lst, p_tup, p_upd, p_isN, p_notN, p_isi, p_sl, p_inone, p_isome, p_cb, p_call, p_callk, p_anil, p_acons, p_dnil, p_dcons, p_enil, p_econs, p_yes, p_gn, p_gnil, p_gcons, p_gtup, p_gsub, p_cres, n_crT, n_cr2, takeOps, putOps, isOwnL, n_f1, atAll, Op.at, Rs.map_ok, n_bind, n_ap1, n_ap2, n_apL, Rs.bind_exc, Rs.bind_bad, n_of, Rs.of_none, Option.bind_some, Option.bind_none, Option.join_some, Option.map_some,
  List.getElem?_cons_zero, List.getElem?_cons_succ, List.getElem?_nil, List.set_cons_zero, List.set_cons_succ, List.length_cons, List.length_nil, T.toD, bl?_d, Nat.zero_lt_succ, Nat.succ_lt_succ_iff, if_true, if_false, reduceIte, reduceCtorEq, List.map_cons, List.map_nil, List.cons_append, List.nil_append, List.replicate_succ, List.replicate_zero, Nat.reduceAdd, Nat.reduceSub, Nat.reduceLT, Nat.reduceLeDiff, Nat.reduceEqDiff, bAdd_ii, bSub_ii, bMul_small, bMod_pos, bFdiv_pos, bPow_small, Int.reduceToNat, Int.reducePow, decide_eq_true_eq, decide_true, decide_false, bLt_ii, bGe_ii, bGt_ii, bLe_ii, bEq_ii, bNe_ii, bInt_i, bLen_l, bLen_d, bLen_ro, bLen_t, bList_l, bList_d, bList_ro, bList_t, bTuple_l, bTuple_d, bTuple_t, uAppend_one, uInsert_one, uPopAt_one, outs, aHas, aNo, aOne, aOr, bIx_l, bIx_d, bIx_t, bIx_ro, bTru, atI_lit, ixN_lit, bSl_l, bSl_d, bSl_ro, isi_l, isi_d, isi_t, isi_i, isi_b, isi_s, isi_n, Rs.env_ok, fSeq_l, fSeq_d, fSeq_ro, fSeq_t, fZip_ll, fZip_ld, fZip_dl, fZip_dd, fZip_tt, fEnum_l, fEnum_d, bIsN_of, bNotN_of, isNon_i, isNon_b, isNon_s, isNon_l, isNon_t, isNon_n, Tn.any, Tn.sub, eq_self, Bool.or_self, Bool.and_self, Bool.or_false, ne_eq, not_true, not_false_eq_true, and_self, and_true, true_and, opsFree, List.all_cons, List.all_nil, bEq_bb, bEq_ss, bNe_bb, bNe_ss, Bool.and_true, Bool.not_true, Bool.not_false, Bool.false_eq_true, List.any_cons, List.any_nil, Nat.reduceBEq, Bool.or_false, Bool.or_true, Bool.false_or, Bool.true_and, Bool.false_and, wipeE, unwipeE, e1]
  have s2 := start_ok b (some (.d (.ro (ns.map D.int))))
  obtain ⟨b1, p3, p4, p5, p6, p7, p9, h2, h3⟩ := lap_ok h1 (by omega) (some (.d (.ro (ns.map D.int)))) none none none none none none none (.int 0)
  obtain ⟨b2, q3, q4, q5, q6, q7, q9, h4, h5⟩ := lap_ok h3 (by omega) (some (.d (.ro (ns.map D.int)))) (some (.d (.int 0))) p3 p4 p5 p6 p7 p9 (.int 1)
  have s3 : q_law_14 [some (.d (.ro (ns.map D.int))), some (.l b), none, none, none, none, none, none, none, none] = .ok .nx [some (.d (.ro (ns.map D.int))), some (.l b2), some (.d (.int 1)), q3, q4, q5, q6, q7, none, q9] := by
    have h6 : (aCons (mDO (mC (.int 2))) aNil) [some (.d (.ro (ns.map D.int))), some (.l b), none, none, none, none, none, none, none, none] = .ok [.tmp (.d (.int ((2 : Nat) : Int)))] [some (.d (.ro (ns.map D.int))), some (.l b), none, none, none, none, none, none, none, none] := by simp only [p_stepC, p_stepF, p_seq, p_asg, p_drop, p_ret, p_pass, p_break, p_cont, p_ifs, p_if, p_de, p_ed, p_eo, p_do, p_use, p_move, p_pk, p_c, p_op2, p_op1, p_b, p_andT, p_orT, p_notT, p_tru, p_andV, p_orV, p_notV, p_aug, p_par, p_lst, p_tup, p_upd, p_isN, p_notN, p_isi, p_sl, p_inone, p_isome, p_cb, p_call, p_callk, p_anil, p_acons, p_dnil, p_dcons, p_enil, p_econs, p_yes, p_gn, p_gnil, p_gcons, p_gtup, p_gsub, p_cres, n_crT, n_cr2, takeOps, putOps, isOwnL, n_f1, atAll, Op.at, Rs.map_ok, n_bind, n_ap1, n_ap2, n_apL, Rs.bind_exc, Rs.bind_bad, n_of, Rs.of_none, Option.bind_some, Option.bind_none, Option.join_some, Option.map_some,
  List.getElem?_cons_zero, List.getElem?_cons_succ, List.getElem?_nil, List.set_cons_zero, List.set_cons_succ, List.length_cons, List.length_nil, T.toD, bl?_d, Nat.zero_lt_succ, Nat.succ_lt_succ_iff, if_true, if_false, reduceIte, reduceCtorEq, List.map_cons, List.map_nil, List.cons_append, List.nil_append, List.replicate_succ, List.replicate_zero, Nat.reduceAdd, Nat.reduceSub, Nat.reduceLT, Nat.reduceLeDiff, Nat.reduceEqDiff, bAdd_ii, bSub_ii, bMul_small, bMod_pos, bFdiv_pos, bPow_small, Int.reduceToNat, Int.reducePow, decide_eq_true_eq, decide_true, decide_false, bLt_ii, bGe_ii, bGt_ii, bLe_ii, bEq_ii, bNe_ii, bInt_i, bLen_l, bLen_d, bLen_ro, bLen_t, bList_l, bList_d, bList_ro, bList_t, bTuple_l, bTuple_d, bTuple_t, uAppend_one, uInsert_one, uPopAt_one, outs, aHas, aNo, aOne, aOr, bIx_l, bIx_d, bIx_t, bIx_ro, bTru, atI_lit, ixN_lit, bSl_l, bSl_d, bSl_ro, isi_l, isi_d, isi_t, isi_i, isi_b, isi_s, isi_n, Rs.env_ok, fSeq_l, fSeq_d, fSeq_ro, fSeq_t, fZip_ll, fZip_ld, fZip_dl, fZip_dd, fZip_tt, fEnum_l, fEnum_d, bIsN_of, bNotN_of, isNon_i, isNon_b, isNon_s, isNon_l, isNon_t, isNon_n, Tn.any, Tn.sub, eq_self, Bool.or_self, Bool.and_self, Bool.or_false, ne_eq, not_true, not_false_eq_true, and_self, and_true, true_and, opsFree, List.all_cons, List.all_nil, bEq_bb, bEq_ss, bNe_bb, bNe_ss, Bool.and_true, Bool.not_true, Bool.not_false, Bool.false_eq_true, List.any_cons, List.any_nil, Nat.reduceBEq, Bool.or_false, Bool.or_true, Bool.false_or, Bool.true_and, Bool.false_and, wipeE, unwipeE, Int.cast_ofNat_Int]
    have h7 : forGo (gN 2) b_law_11 (intsFrom 0 2) [some (.d (.ro (ns.map D.int))), some (.l b), none, none, none, none, none, none, none, none] = .ok .nx [some (.d (.ro (ns.map D.int))), some (.l b2), some (.d (.int 1)), q3, q4, q5, q6, q7, none, q9] := by
      show forGo (gN 2) b_law_11 [.int 0, .int 1] _ = _
      rw [for_step h2, for_step h4]
      rfl
    refine (for_at h6 rfl (fR1_nat (n := 2) (by omega)) rfl h7).trans ?_
    rfl
  have key : mb_law [some (.d (.ro (ns.map D.int))), none, none, none, none, none, none, none, none, none] = .ok (.rt (.d (.bl true))) [some (.d (.ro (ns.map D.int))), some (.l b2), some (.d (.int 1)), q3, q4, q5, q6, q7, none, q9] := by
    unfold mb_law
    rw [seq_nx s1, seq_nx s2, seq_nx s3]
    simp only [p_stepC, p_stepF, p_seq, p_asg, p_drop, p_ret, p_pass, p_break, p_cont, p_ifs, p_if, p_de, p_ed, p_eo, p_do, p_use, p_move, p_pk, p_c, p_op2, p_op1, p_b, p_andT, p_orT, p_notT, p_tru, p_andV, p_orV, p_notV, p_aug, p_par, p_lst, p_tup, p_upd, p_isN, p_notN, p_isi, p_sl, p_inone, p_isome, p_cb, p_call, p_callk, p_anil, p_acons, p_dnil, p_dcons, p_enil, p_econs, p_yes, p_gn, p_gnil, p_gcons, p_gtup, p_gsub, p_cres, n_crT, n_cr2, takeOps, putOps, isOwnL, n_f1, atAll, Op.at, Rs.map_ok, n_bind, n_ap1, n_ap2, n_apL, Rs.bind_exc, Rs.bind_bad, n_of, Rs.of_none, Option.bind_some, Option.bind_none, Option.join_some, Option.map_some,
  List.getElem?_cons_zero, List.getElem?_cons_succ, List.getElem?_nil, List.set_cons_zero, List.set_cons_succ, List.length_cons, List.length_nil, T.toD, bl?_d, Nat.zero_lt_succ, Nat.succ_lt_succ_iff, if_true, if_false, reduceIte, reduceCtorEq, List.map_cons, List.map_nil, List.cons_append, List.nil_append, List.replicate_succ, List.replicate_zero, Nat.reduceAdd, Nat.reduceSub, Nat.reduceLT, Nat.reduceLeDiff, Nat.reduceEqDiff, bAdd_ii, bSub_ii, bMul_small, bMod_pos, bFdiv_pos, bPow_small, Int.reduceToNat, Int.reducePow, decide_eq_true_eq, decide_true, decide_false, bLt_ii, bGe_ii, bGt_ii, bLe_ii, bEq_ii, bNe_ii, bInt_i, bLen_l, bLen_d, bLen_ro, bLen_t, bList_l, bList_d, bList_ro, bList_t, bTuple_l, bTuple_d, bTuple_t, uAppend_one, uInsert_one, uPopAt_one, outs, aHas, aNo, aOne, aOr, bIx_l, bIx_d, bIx_t, bIx_ro, bTru, atI_lit, ixN_lit, bSl_l, bSl_d, bSl_ro, isi_l, isi_d, isi_t, isi_i, isi_b, isi_s, isi_n, Rs.env_ok, fSeq_l, fSeq_d, fSeq_ro, fSeq_t, fZip_ll, fZip_ld, fZip_dl, fZip_dd, fZip_tt, fEnum_l, fEnum_d, bIsN_of, bNotN_of, isNon_i, isNon_b, isNon_s, isNon_l, isNon_t, isNon_n, Tn.any, Tn.sub, eq_self, Bool.or_self, Bool.and_self, Bool.or_false, ne_eq, not_true, not_false_eq_true, and_self, and_true, true_and, opsFree, List.all_cons, List.all_nil, bEq_bb, bEq_ss, bNe_bb, bNe_ss, Bool.and_true, Bool.not_true, Bool.not_false, Bool.false_eq_true, List.any_cons, List.any_nil, Nat.reduceBEq, Bool.or_false, Bool.or_true, Bool.false_or, Bool.true_and, Bool.false_and, wipeE, unwipeE]
  exact ⟨_, fn_ret (by rfl) key⟩
end NS
namespace NS
open PySem L2
/-! ### the text by places -/
def top (i : Nat) : Stmt := PySem.Challenge.pw_nearseats_k30_determinants_and_ranks.main.body.getD i (.Pass ⟨0, 0, 0, 0⟩)
abbrev s_cleared : Stmt := top 3
abbrev s_independent_rows : Stmt := top 1
abbrev s_determinant : Stmt := top 2
abbrev s__law_bag : Stmt := top 5
abbrev s__law_draw : Stmt := top 6
abbrev s__law_of : Stmt := top 7
abbrev s__law_mixed : Stmt := top 8
abbrev s__law_like : Stmt := top 9
abbrev s__law_det : Stmt := top 10
abbrev s__law_number : Stmt := top 11
abbrev s__law_numbers : Stmt := top 12
abbrev s__law_turned : Stmt := top 13
abbrev s__law_count : Stmt := top 14
abbrev s__law_square_so : Stmt := top 15
abbrev s_law : Stmt := top 16
def N_cleared : List Str := ["row", "chosen", "column", "below", "pivot", "weight", "number", "other"]
def N_independent_rows : List Str := ["rows", "rest", "row", "below", "many", "column", "places", "place", "chosen", "others"]
def N_determinant : List Str := ["rows", "rest", "row", "below", "sign", "column", "places", "place", "chosen", "others"]
def N__law_bag : List Str := ["script", "mix", "cell"]
def N__law_draw : List Str := ["bag", "size", "cell", "digit"]
def N__law_of : List Str := ["bag", "things"]
def N__law_mixed : List Str := ["bag", "things", "found", "thing"]
def N__law_like : List Str := ["told", "due", "a", "b"]
def N__law_det : List Str := ["square", "total", "k", "line"]
def N__law_number : List Str := ["bag", "great", "way", "item"]
def N__law_numbers : List Str := ["bag", "many", "size", "great", "found", "k", "way", "left", "right", "x", "y", "a", "b", "t", "at", "some"]
def N__law_turned : List Str := ["items", "size", "t", "some"]
def N__law_count : List Str := ["items", "left", "found", "some", "t", "at", "k", "a", "b", "x", "y"]
def N__law_square_so : List Str := ["bag", "square", "size", "due", "handed", "some", "a", "b", "full"]
def N_law : List Str := ["script", "bag", "lap", "size", "square", "many", "items", "handed", "some", "due"]
/-! ### what the text has of built-ins -/
structure BX (mg : Str → Option Value) : Prop where
  b_all : mg "all" = none
  b_bool : mg "bool" = none
  b_enumerate : mg "enumerate" = none
  b_int : mg "int" = none
  b_isinstance : mg "isinstance" = none
  b_len : mg "len" = none
  b_list : mg "list" = none
  b_range : mg "range" = none
  b_str : mg "str" = none
  b_tuple : mg "tuple" = none
  b_zip : mg "zip" = none
section
variable {P : Program} {w : World} {K : PySem.W.Frag} {mg : Str → Option Value} {base : Heap} {cad : Nat → Addr}
theorem sc_cleared : FnScope N_cleared ["row", "chosen", "column", "below"] (defScope s_cleared) := ⟨rfl, rfl, rfl, by decide +kernel, rfl, by decide +kernel, by decide +kernel⟩
theorem ok_cleared {f : Addr} {fd : FuncData} (F : Fun K "cleared" "cleared" s_cleared f fd) (B : BX mg) : FnOk P w K mg base (L2.CX P w) 1 f fd ["row", "chosen", "column", "below"] (spM ⟨K, cad⟩ 4 m_cleared) :=
  fn_ok (N := N_cleared) (k := 0) F sc_cleared (fun cdv A0 outer s H E t hp => (xss_cons (xs_asg (XD.e (XE.d (xe_ix (xo_pk 1) (xo_pk 2)))) (xg_name 4 t.nd))
    (xss_cons (xs_asg (XD.e (XE.d (xe_ix (xo_pk 0) (xo_pk 2)))) (xg_name 5 t.nd))
    (xss_one (xs_ret (XD.e (XE.d (xe_comp (own := [("number", 6), ("other", 7)]) t.calm t.nd (xit_zip B.b_zip (xa_cons (xo_pk 0) (xa_cons (xo_pk 1) xa_nil))) (by show blkC N_cleared (defScope s_cleared) _ _ = true; decide +kernel) (fun _ _ _ _ _ => (xg_tup (l := 2) ((t.blk _ _ _ _ _)).calm (xgs_cons (xg_name 6 ((t.blk _ _ _ _ _)).nd) (xgs_cons (xg_name 7 ((t.blk _ _ _ _ _)).nd) xgs_nil)))) (fun _ _ _ _ _ => xts_nil) (fun _ _ _ _ _ => (XE.d (xe_fdiv (XE.o (xe_sub (XE.o (xe_mul (xo_pk 4) (xo_pk 6))) (XE.o (xe_mul (xo_pk 5) (xo_pk 7))))) (xo_pk 3)))) (by rfl)))))))))
theorem sc_independent_rows : FnScope N_independent_rows ["rows"] (defScope s_independent_rows) := ⟨rfl, rfl, rfl, by decide +kernel, rfl, by decide +kernel, by decide +kernel⟩
theorem ok_independent_rows {f : Addr} {fd : FuncData} (F : Fun K "independent_rows" "independent_rows" s_independent_rows f fd) (B : BX mg) (c_cleared : Cal cad P w K mg base 1 "cleared" 4 m_cleared) : FnOk P w K mg base (L2.CX P w) 2 f fd ["rows"] (spM ⟨K, cad⟩ 1 m_independent_rows) :=
  fn_ok (N := N_independent_rows) (k := 1) F sc_independent_rows (fun cdv A0 outer s H E t hp => (xss_cons (xs_setComp (own := [("row", 2)]) (i := 1) t.calm t.nd (xit_seq (xo_pk 0)) (by show blkC N_independent_rows (defScope s_independent_rows) _ _ = true; decide +kernel) (fun _ _ _ _ _ => (xg_name 2 ((t.blk _ _ _ _ _)).nd)) (fun _ _ _ _ _ => xts_nil) (fun _ _ _ _ _ => (XE.d (xe_list B.b_list (xa_cons (xo_pk 2) xa_nil)))) (by rfl) (by rfl) (by rfl) (sw_true rfl rfl rfl (by decide +kernel)) (fun m => mDE (mED m)) (fun _ h => h.d.e) SG.name)
    (xss_cons (xs_asg (XD.e xd_int) (xg_name 3 t.nd))
    (xss_cons (xs_asg (XD.e xd_int) (xg_name 4 t.nd))
    (xss_cons (xs_for hp t.calm (xit_range1 B.b_range (xa_cons (XD.o (xd_if (xt_tru (xo_pk 1)) (XE.d (xe_len B.b_len (xa_cons (XE.o (xe_ix (xo_pk 1) (XD.o xd_int))) xa_nil))) xd_int)) xa_nil)) (xg_name 5 t.nd) (xss_cons (xs_setComp (own := [("place", 7), ("row", 2)]) (i := 6) t.calm t.nd (xit_enum B.b_enumerate (xa_cons (xo_pk 1) xa_nil)) (by show blkC N_independent_rows (defScope s_independent_rows) _ _ = true; decide +kernel) (fun _ _ _ _ _ => (xg_tup (l := 2) ((t.blk _ _ _ _ _)).calm (xgs_cons (xg_name 7 ((t.blk _ _ _ _ _)).nd) (xgs_cons (xg_name 2 ((t.blk _ _ _ _ _)).nd) xgs_nil)))) (fun _ _ _ _ _ => (xts_one (xt_ne ((t.blk _ _ _ _ _)).units (XE.o (xe_ix (xo_pk 2) (xo_pk 5))) (XD.o xd_int)))) (fun _ _ _ _ _ => (xd_use 7)) (by rfl) (by rfl) (by rfl) (sw_true rfl rfl rfl (by decide +kernel)) (fun m => mDE (mED m)) (fun _ h => h.d.e) SG.name)
    (xss_one (xs_if (xt_tru (xo_pk 6)) (xss_cons (xs_asg (XD.e (XE.d (xe_ix (xo_pk 1) (XE.o (xe_ix (xo_pk 6) (XD.o xd_int)))))) (xg_name 8 t.nd))
    (xss_cons (xs_asg (XD.e (XE.d (xe_add (XE.o (xe_sl (xo_pk 1) xi_none (xi_some (XE.d (xe_ix (xo_pk 6) (XD.o xd_int)))))) (XE.o (xe_sl (xo_pk 1) (xi_some (XE.d (xe_add (XE.o (xe_ix (xo_pk 6) (XD.o xd_int))) (XD.o xd_int)))) xi_none))))) (xg_name 9 t.nd))
    (xss_cons (xs_setComp (own := [("row", 2)]) (i := 1) t.calm t.nd (xit_seq (xo_pk 9)) (by show blkC N_independent_rows (defScope s_independent_rows) _ _ = true; decide +kernel) (fun _ _ _ _ _ => (xg_name 2 ((t.blk _ _ _ _ _)).nd)) (fun _ _ _ _ _ => xts_nil) (fun _ _ _ _ _ => (XE.d (xe_call ((t.blk _ _ _ _ _)) c_cleared (by decide) (xa_cons (xo_pk 2) (xa_cons (xo_pk 8) (xa_cons (xo_pk 5) (xa_cons (xo_pk 3) xa_nil))))))) (by rfl) (by rfl) (by rfl) (sw_true rfl rfl rfl (by decide +kernel)) (fun m => mDE (mED m)) (fun _ h => h.d.e) SG.name)
    (xss_cons (xs_asg (XD.e (XE.d (xe_ix (xo_pk 8) (xo_pk 5)))) (xg_name 3 t.nd))
    (xss_one (xs_aug 4 t.nd ip_add (XD.e xd_int))))))) xss_nil))))
    (xss_one (xs_ret (XD.e (xd_use 4)))))))))
theorem sc_determinant : FnScope N_determinant ["rows"] (defScope s_determinant) := ⟨rfl, rfl, rfl, by decide +kernel, rfl, by decide +kernel, by decide +kernel⟩
theorem ok_determinant {f : Addr} {fd : FuncData} (F : Fun K "determinant" "determinant" s_determinant f fd) (B : BX mg) (c_cleared : Cal cad P w K mg base 1 "cleared" 4 m_cleared) : FnOk P w K mg base (L2.CX P w) 2 f fd ["rows"] (spM ⟨K, cad⟩ 1 m_determinant) :=
  fn_ok (N := N_determinant) (k := 1) F sc_determinant (fun cdv A0 outer s H E t hp => (xss_cons (xs_setComp (own := [("row", 2)]) (i := 1) t.calm t.nd (xit_seq (xo_pk 0)) (by show blkC N_determinant (defScope s_determinant) _ _ = true; decide +kernel) (fun _ _ _ _ _ => (xg_name 2 ((t.blk _ _ _ _ _)).nd)) (fun _ _ _ _ _ => xts_nil) (fun _ _ _ _ _ => (XE.d (xe_list B.b_list (xa_cons (xo_pk 2) xa_nil)))) (by rfl) (by rfl) (by rfl) (sw_true rfl rfl rfl (by decide +kernel)) (fun m => mDE (mED m)) (fun _ h => h.d.e) SG.name)
    (xss_cons (xs_asg (XD.e xd_int) (xg_name 3 t.nd))
    (xss_cons (xs_asg (XD.e xd_int) (xg_name 4 t.nd))
    (xss_cons (xs_for hp t.calm (xit_range1 B.b_range (xa_cons (XE.o (xe_len B.b_len (xa_cons (xo_pk 0) xa_nil))) xa_nil)) (xg_name 5 t.nd) (xss_cons (xs_setComp (own := [("place", 7), ("row", 2)]) (i := 6) t.calm t.nd (xit_enum B.b_enumerate (xa_cons (xo_pk 1) xa_nil)) (by show blkC N_determinant (defScope s_determinant) _ _ = true; decide +kernel) (fun _ _ _ _ _ => (xg_tup (l := 2) ((t.blk _ _ _ _ _)).calm (xgs_cons (xg_name 7 ((t.blk _ _ _ _ _)).nd) (xgs_cons (xg_name 2 ((t.blk _ _ _ _ _)).nd) xgs_nil)))) (fun _ _ _ _ _ => (xts_one (xt_ne ((t.blk _ _ _ _ _)).units (XE.o (xe_ix (xo_pk 2) (xo_pk 5))) (XD.o xd_int)))) (fun _ _ _ _ _ => (xd_use 7)) (by rfl) (by rfl) (by rfl) (sw_true rfl rfl rfl (by decide +kernel)) (fun m => mDE (mED m)) (fun _ h => h.d.e) SG.name)
    (xss_cons (xs_if (xt_not (xt_tru (xo_pk 6))) (xss_one (xs_ret (XD.e xd_int))) xss_nil)
    (xss_cons (xs_asg (XD.e (XE.d (xe_ix (xo_pk 1) (XE.o (xe_ix (xo_pk 6) (XD.o xd_int)))))) (xg_name 8 t.nd))
    (xss_cons (xs_asg (XD.e (XE.d (xe_add (XE.o (xe_sl (xo_pk 1) xi_none (xi_some (XE.d (xe_ix (xo_pk 6) (XD.o xd_int)))))) (XE.o (xe_sl (xo_pk 1) (xi_some (XE.d (xe_add (XE.o (xe_ix (xo_pk 6) (XD.o xd_int))) (XD.o xd_int)))) xi_none))))) (xg_name 9 t.nd))
    (xss_cons (xs_asg (XD.e (xd_if (xt_eq t.units (XE.o (xe_mod (XE.o (xe_ix (xo_pk 6) (XD.o xd_int))) (XD.o xd_int))) (XD.o xd_int)) (xd_use 4) (XE.d (xe_neg (xo_pk 4))))) (xg_name 4 t.nd))
    (xss_cons (xs_setComp (own := [("row", 2)]) (i := 1) t.calm t.nd (xit_seq (xo_pk 9)) (by show blkC N_determinant (defScope s_determinant) _ _ = true; decide +kernel) (fun _ _ _ _ _ => (xg_name 2 ((t.blk _ _ _ _ _)).nd)) (fun _ _ _ _ _ => xts_nil) (fun _ _ _ _ _ => (XE.d (xe_call ((t.blk _ _ _ _ _)) c_cleared (by decide) (xa_cons (xo_pk 2) (xa_cons (xo_pk 8) (xa_cons (xo_pk 5) (xa_cons (xo_pk 3) xa_nil))))))) (by rfl) (by rfl) (by rfl) (sw_true rfl rfl rfl (by decide +kernel)) (fun m => mDE (mED m)) (fun _ h => h.d.e) SG.name)
    (xss_one (xs_asg (XD.e (XE.d (xe_ix (xo_pk 8) (xo_pk 5)))) (xg_name 3 t.nd))))))))))
    (xss_one (xs_ret (XD.e (XE.d (xe_mul (xo_pk 4) (xo_pk 3)))))))))))
theorem sc__law_bag : FnScope N__law_bag ["script"] (defScope s__law_bag) := ⟨rfl, rfl, rfl, by decide +kernel, rfl, by decide +kernel, by decide +kernel⟩
theorem ok__law_bag {f : Addr} {fd : FuncData} (F : Fun K "_law_bag" "_law_bag" s__law_bag f fd) (B : BX mg) : FnOk P w K mg base (L2.CX P w) 1 f fd ["script"] (spM ⟨K, cad⟩ 1 m__law_bag) :=
  fn_ok (N := N__law_bag) (k := 0) F sc__law_bag (fun cdv A0 outer s H E t hp => (xss_cons (xs_asg (XD.e xd_int) (xg_name 1 t.nd))
    (xss_cons (xs_for hp t.calm (xit_seq (XE.o (xe_sl (xo_pk 0) xi_none (xi_some xd_int)))) (xg_name 2 t.nd) (xss_one (xs_asg (XD.e (XE.d (xe_mod (XE.o (xe_int B.b_int (xa_cons (XE.o (xe_add (XE.o (xe_add (XE.o (xe_mul (xo_pk 1) (XD.o xd_int))) (XE.o (xe_mul (XE.o (xe_mod (XE.o (xe_int B.b_int (xa_cons (xo_pk 2) xa_nil))) (XD.o xd_int))) (XD.o xd_int))))) (XD.o xd_int))) xa_nil))) (XD.o xd_int)))) (xg_name 1 t.nd))))
    (xss_one (xs_ret (xe_lst (xds_cons (XE.d (xe_list B.b_list (xa_cons (XE.o (xe_sl (xo_pk 0) xi_none (xi_some xd_int))) xa_nil))) (xds_cons xd_int (xds_cons xd_int (xds_cons (xd_use 1) (xds_cons xd_int xds_nil)))))))))))
theorem sc__law_draw : FnScope N__law_draw ["bag", "size"] (defScope s__law_draw) := ⟨rfl, rfl, rfl, by decide +kernel, rfl, by decide +kernel, by decide +kernel⟩
theorem ok__law_draw {f : Addr} {fd : FuncData} (F : Fun K "_law_draw" "_law_draw" s__law_draw f fd) (B : BX mg) : FnOk P w K mg base (L2.CX P w) 1 f fd ["bag", "size"] (spM ⟨K, cad⟩ 2 m__law_draw) :=
  fn_ok (N := N__law_draw) (k := 0) F sc__law_draw (fun cdv A0 outer s H E t hp => (xss_cons (xs_asg (XD.e (XE.d (xe_add (XE.o (xe_ix (xo_pk 0) (XD.o xd_int))) (XD.o xd_int)))) (xg_subL 0 xd_int))
    (xss_cons (xs_if (XW.t (xw_and (xt_eq t.units (XE.o (xe_ix (xo_pk 0) (XD.o xd_int))) (XD.o xd_int)) (xw_and1 (xt_lt (XE.o (xe_ix (xo_pk 0) (XD.o xd_int))) (XE.o (xe_len B.b_len (xa_cons (XE.o (xe_ix (xo_pk 0) (XD.o xd_int))) xa_nil))))))) (xss_cons (xs_asg (XD.e (XE.d (xe_ix (XE.o (xe_ix (xo_pk 0) (XD.o xd_int))) (XE.o (xe_ix (xo_pk 0) (XD.o xd_int)))))) (xg_name 2 t.nd))
    (xss_cons (xs_asg (XD.e (XE.d (xe_add (XE.o (xe_ix (xo_pk 0) (XD.o xd_int))) (XD.o xd_int)))) (xg_subL 0 xd_int))
    (xss_one (xs_if (xt_ge (xo_pk 2) (XE.o (xe_pow (XD.o xd_int) (XD.o xd_int)))) (xss_one (xs_asg (XD.e (xd_use 2)) (xg_subL 0 xd_int))) (xss_one (xs_asg (XD.e (XE.d (xe_mod (XE.o (xe_int B.b_int (xa_cons (XE.o (xe_add (XE.o (xe_add (XE.o (xe_mul (XE.o (xe_ix (xo_pk 0) (XD.o xd_int))) (XD.o xd_int))) (XE.o (xe_mul (XE.o (xe_mod (XE.o (xe_int B.b_int (xa_cons (xo_pk 2) xa_nil))) (XD.o xd_int))) (XD.o xd_int))))) (XD.o xd_int))) xa_nil))) (XD.o xd_int)))) (xg_subL 0 xd_int))))))) xss_nil)
    (xss_cons (xs_if (xt_gt (XE.o (xe_ix (xo_pk 0) (XD.o xd_int))) (XD.o xd_int)) (xss_cons (xs_asg (XD.e (XE.d (xe_mod (XE.o (xe_int B.b_int (xa_cons (XE.o (xe_ix (xo_pk 0) (XD.o xd_int))) xa_nil))) (xo_pk 1)))) (xg_name 3 t.nd))
    (xss_cons (xs_asg (XD.e (XE.d (xe_fdiv (XE.o (xe_ix (xo_pk 0) (XD.o xd_int))) (xo_pk 1)))) (xg_subL 0 xd_int))
    (xss_one (xs_ret (XD.e (xd_use 3)))))) xss_nil)
    (xss_cons (xs_asg (XD.e (XE.d (xe_mod (XE.o (xe_int B.b_int (xa_cons (XE.o (xe_add (XE.o (xe_add (XE.o (xe_pow (XE.o (xe_ix (xo_pk 0) (XD.o xd_int))) (XD.o xd_int))) (XE.o (xe_mul (XE.o (xe_ix (xo_pk 0) (XD.o xd_int))) (XD.o xd_int))))) (XD.o xd_int))) xa_nil))) (XD.o xd_int)))) (xg_subL 0 xd_int))
    (xss_one (xs_ret (XD.e (XE.d (xe_mod (XE.o (xe_int B.b_int (xa_cons (XE.o (xe_add (XE.o (xe_fdiv (XE.o (xe_ix (xo_pk 0) (XD.o xd_int))) (XD.o xd_int))) (XE.o (xe_mul (XE.o (xe_mod (XE.o (xe_int B.b_int (xa_cons (XE.o (xe_ix (xo_pk 0) (XD.o xd_int))) xa_nil))) (XD.o xd_int))) (XD.o xd_int))))) xa_nil))) (xo_pk 1)))))))))))
theorem sc__law_of : FnScope N__law_of ["bag", "things"] (defScope s__law_of) := ⟨rfl, rfl, rfl, by decide +kernel, rfl, by decide +kernel, by decide +kernel⟩
theorem ok__law_of {f : Addr} {fd : FuncData} (F : Fun K "_law_of" "_law_of" s__law_of f fd) (B : BX mg) (c__law_draw : Cal cad P w K mg base 1 "_law_draw" 2 m__law_draw) : FnOk P w K mg base (L2.CX P w) 2 f fd ["bag", "things"] (spM ⟨K, cad⟩ 2 m__law_of) :=
  fn_ok (N := N__law_of) (k := 1) F sc__law_of (fun cdv A0 outer s H E t hp => (xss_one (xs_ret (XD.e (XE.d (xe_ix (xo_pk 1) (XE.o (xe_call t c__law_draw (by decide) (xa_cons (xo_pk 0) (xa_cons (XD.o (XE.d (xe_len B.b_len (xa_cons (xo_pk 1) xa_nil)))) xa_nil))))))))))
theorem sc__law_mixed : FnScope N__law_mixed ["bag", "things"] (defScope s__law_mixed) := ⟨rfl, rfl, rfl, by decide +kernel, rfl, by decide +kernel, by decide +kernel⟩
theorem ok__law_mixed {f : Addr} {fd : FuncData} (F : Fun K "_law_mixed" "_law_mixed" s__law_mixed f fd) (B : BX mg) (c__law_draw : Cal cad P w K mg base 1 "_law_draw" 2 m__law_draw) : FnOk P w K mg base (L2.CX P w) 2 f fd ["bag", "things"] (spM ⟨K, cad⟩ 2 m__law_mixed) :=
  fn_ok (N := N__law_mixed) (k := 1) F sc__law_mixed (fun cdv A0 outer s H E t hp => (xss_cons (xs_asg (xe_lst xds_nil) (xg_name 2 t.nd))
    (xss_cons (xs_for hp t.calm (xit_seq (xo_pk 1)) (xg_name 3 t.nd) (xss_one (xs_expr (xe_upd 2 PySem.F.slot_list_insert PySem.F.type_list_insert mt_insert upd_insert (xds_cons (XE.d (xe_call t c__law_draw (by decide) (xa_cons (xo_pk 0) (xa_cons (XD.o (XE.d (xe_add (XE.o (xe_len B.b_len (xa_cons (xo_pk 2) xa_nil))) (XD.o xd_int)))) xa_nil)))) (xds_cons (xd_use 3) xds_nil))))))
    (xss_one (xs_ret (XD.e (xd_use 2)))))))
theorem sc__law_like : FnScope N__law_like ["told", "due"] (defScope s__law_like) := ⟨rfl, rfl, rfl, by decide +kernel, rfl, by decide +kernel, by decide +kernel⟩
theorem ok__law_like {f : Addr} {fd : FuncData} (F : Fun K "_law_like" "_law_like" s__law_like f fd) (hm : mg "_law_like" = some (.ref f)) (b : Binds K fd ["told", "due"] []) (B : BX mg) : ∀ d : Nat, d ≤ 6 → FnOk P w K mg base (L2.CX P w) (1 + d) f fd ["told", "due"] (spM ⟨K, cad⟩ 2 (m__law_like d))
  | 0, _ => fn_bad
  | d + 1, hd => by
    have c__law_like : Cal cad P w K mg base (1 + d) "_law_like" 2 (m__law_like d) := cal_of F (ok__law_like F hm b B d (by omega)) hm b (by cases d with | zero => exact fun _ h => absurd rfl h | succ d => exact fun _ h => mFn_len h)
    have k0 : 1 + d ≤ 1 + d := Nat.le_refl _
    exact fn_ok (N := N__law_like) (k := 1 + d) F sc__law_like (fun cdv A0 outer s H E t hp => (xss_cons (xs_if (xt_val (xe_isiT (cs := []) (bs := [.lst, .tup]) (fun _ z => nomatch z) B.b_isinstance (xo_pk 1) (TyNames.cons (by rfl) B.b_list (by decide +kernel) (by decide) (by decide) (by rfl) (TyNames.cons (by rfl) B.b_tuple (by decide +kernel) (by decide) (by decide) (by rfl) TyNames.nil)) (by decide))) (xss_cons (xs_if (XW.t (xw_or (xt_ne t.units (XE.o (xe_isi (cs := []) (b := .lst) (fun _ z => nomatch z) B.b_isinstance (xo_pk 0) B.b_list (by decide +kernel))) (XE.o (xe_isi (cs := []) (b := .lst) (fun _ z => nomatch z) B.b_isinstance (xo_pk 1) B.b_list (by decide +kernel)))) (xw_or1 (xt_ne t.units (XE.o (xe_isi (cs := []) (b := .tup) (fun _ z => nomatch z) B.b_isinstance (xo_pk 0) B.b_tuple (by decide +kernel))) (XE.o (xe_isi (cs := []) (b := .tup) (fun _ z => nomatch z) B.b_isinstance (xo_pk 1) B.b_tuple (by decide +kernel))))))) (xss_one (xs_ret (XD.e xd_bl))) xss_nil)
    (xss_one (xs_ret (XD.e (xd_and (XE.d (xe_eq t.units (XE.o (xe_len B.b_len (xa_cons (xo_pk 0) xa_nil))) (XE.o (xe_len B.b_len (xa_cons (xo_pk 1) xa_nil))))) (xd_one (XE.d (xe_all t.calm B.b_all (xa_cons (XE.o (xe_comp (own := [("a", 2), ("b", 3)]) t.calm t.nd (xit_zip B.b_zip (xa_cons (xo_pk 0) (xa_cons (xo_pk 1) xa_nil))) (by show blkC N__law_like (defScope s__law_like) _ _ = true; decide +kernel) (fun _ _ _ _ _ => (xg_tup (l := 2) ((t.blk _ _ _ _ _)).calm (xgs_cons (xg_name 2 ((t.blk _ _ _ _ _)).nd) (xgs_cons (xg_name 3 ((t.blk _ _ _ _ _)).nd) xgs_nil)))) (fun _ _ _ _ _ => xts_nil) (fun _ _ _ _ _ => (XE.d (xe_call ((t.blk _ _ _ _ _)) c__law_like (Nat.le_refl _) (xa_cons (xo_pk 2) (xa_cons (xo_pk 3) xa_nil))))) (by rfl))) xa_nil))))))))) xss_nil)
    (xss_cons (xs_if (XW.t (xw_or (xt_isN (xo_pk 1)) (xw_or1 (xt_isN (xo_pk 0))))) (xss_one (xs_ret (XD.e (xd_and (XE.d (xe_isN (xo_pk 1))) (xd_one (XE.d (xe_isN (xo_pk 0)))))))) xss_nil)
    (xss_cons (xs_if (XW.t (xw_or (xt_val (xe_isiT (cs := []) (bs := [.lst, .tup]) (fun _ z => nomatch z) B.b_isinstance (xo_pk 0) (TyNames.cons (by rfl) B.b_list (by decide +kernel) (by decide) (by decide) (by rfl) (TyNames.cons (by rfl) B.b_tuple (by decide +kernel) (by decide) (by decide) (by rfl) TyNames.nil)) (by decide))) (xw_or1 (xt_ne t.units (XE.o (xe_isi (cs := []) (b := .bl) (fun _ z => nomatch z) B.b_isinstance (xo_pk 0) B.b_bool (by decide +kernel))) (XE.o (xe_isi (cs := []) (b := .bl) (fun _ z => nomatch z) B.b_isinstance (xo_pk 1) B.b_bool (by decide +kernel))))))) (xss_one (xs_ret (XD.e xd_bl))) xss_nil)
    (xss_cons (xs_if (XW.t (xw_or (xt_ne t.units (XE.o (xe_isi (cs := []) (b := .str) (fun _ z => nomatch z) B.b_isinstance (xo_pk 0) B.b_str (by decide +kernel))) (XE.o (xe_isi (cs := []) (b := .str) (fun _ z => nomatch z) B.b_isinstance (xo_pk 1) B.b_str (by decide +kernel)))) (xw_or1 (xt_ne t.units (XE.o (xe_isi (cs := []) (b := .int) (fun _ z => nomatch z) B.b_isinstance (xo_pk 0) B.b_int (by decide +kernel))) (XE.o (xe_isi (cs := []) (b := .int) (fun _ z => nomatch z) B.b_isinstance (xo_pk 1) B.b_int (by decide +kernel))))))) (xss_one (xs_ret (XD.e xd_bl))) xss_nil)
    (xss_one (xs_ret (XD.e (XE.d (xe_eq t.units (xo_pk 0) (xo_pk 1)))))))))))
theorem sc__law_det : FnScope N__law_det ["square"] (defScope s__law_det) := ⟨rfl, rfl, rfl, by decide +kernel, rfl, by decide +kernel, by decide +kernel⟩
theorem ok__law_det {f : Addr} {fd : FuncData} (F : Fun K "_law_det" "_law_det" s__law_det f fd) (hm : mg "_law_det" = some (.ref f)) (b : Binds K fd ["square"] []) (B : BX mg) : ∀ d : Nat, d ≤ 7 → FnOk P w K mg base (L2.CX P w) (1 + d) f fd ["square"] (spM ⟨K, cad⟩ 1 (m__law_det d))
  | 0, _ => fn_bad
  | d + 1, hd => by
    have c__law_det : Cal cad P w K mg base (1 + d) "_law_det" 1 (m__law_det d) := cal_of F (ok__law_det F hm b B d (by omega)) hm b (by cases d with | zero => exact fun _ h => absurd rfl h | succ d => exact fun _ h => mFn_len h)
    have k0 : 1 + d ≤ 1 + d := Nat.le_refl _
    exact fn_ok (N := N__law_det) (k := 1 + d) F sc__law_det (fun cdv A0 outer s H E t hp => (xss_cons (xs_if (xt_eq t.units (xo_pk 0) (XE.o (xe_lst xds_nil))) (xss_one (xs_ret (XD.e xd_int))) xss_nil)
    (xss_cons (xs_asg (XD.e xd_int) (xg_name 1 t.nd))
    (xss_cons (xs_for hp t.calm (xit_range1 B.b_range (xa_cons (XE.o (xe_len B.b_len (xa_cons (xo_pk 0) xa_nil))) xa_nil)) (xg_name 2 t.nd) (xss_one (xs_if (xt_ne t.units (XE.o (xe_ix (XE.o (xe_ix (xo_pk 0) (XD.o xd_int))) (xo_pk 2))) (XD.o xd_int)) (xss_one (xs_asg (XD.e (XE.d (xe_add (xo_pk 1) (XE.o (xe_mul (XE.o (xe_mul (XE.o (xe_sub (XD.o xd_int) (XE.o (xe_mul (XD.o xd_int) (XE.o (xe_mod (XE.o (xe_int B.b_int (xa_cons (xo_pk 2) xa_nil))) (XD.o xd_int))))))) (XE.o (xe_ix (XE.o (xe_ix (xo_pk 0) (XD.o xd_int))) (xo_pk 2))))) (XE.o (xe_call t c__law_det (Nat.le_refl _) (xa_cons (XD.o (XE.d (xe_comp (own := [("line", 3)]) t.calm t.nd (xit_seq (XE.o (xe_sl (xo_pk 0) (xi_some xd_int) xi_none))) (by show blkC N__law_det (defScope s__law_det) _ _ = true; decide +kernel) (fun _ _ _ _ _ => (xg_name 3 ((t.blk _ _ _ _ _)).nd)) (fun _ _ _ _ _ => xts_nil) (fun _ _ _ _ _ => (XE.d (xe_add (XE.o (xe_sl (xo_pk 3) xi_none (xi_some (xd_use 2)))) (XE.o (xe_sl (xo_pk 3) (xi_some (XE.d (xe_add (xo_pk 2) (XD.o xd_int)))) xi_none))))) (by rfl)))) xa_nil)))))))) (xg_name 1 t.nd))) xss_nil)))
    (xss_one (xs_ret (XD.e (xd_use 1))))))))
theorem sc__law_number : FnScope N__law_number ["bag", "great"] (defScope s__law_number) := ⟨rfl, rfl, rfl, by decide +kernel, rfl, by decide +kernel, by decide +kernel⟩
theorem ok__law_number {f : Addr} {fd : FuncData} (F : Fun K "_law_number" "_law_number" s__law_number f fd) (B : BX mg) (c__law_draw : Cal cad P w K mg base 1 "_law_draw" 2 m__law_draw) : FnOk P w K mg base (L2.CX P w) 2 f fd ["bag", "great"] (spM ⟨K, cad⟩ 2 m__law_number) :=
  fn_ok (N := N__law_number) (k := 1) F sc__law_number (fun cdv A0 outer s H E t hp => (xss_cons (xs_asg (XD.e (XE.d (xe_call t c__law_draw (by decide) (xa_cons (xo_pk 0) (xa_cons (XD.o xd_int) xa_nil))))) (xg_name 2 t.nd))
    (xss_cons (xs_if (xt_lt (xo_pk 2) (XD.o xd_int)) (xss_one (xs_ret (XD.e xd_int))) xss_nil)
    (xss_cons (xs_if (XW.t (xw_and (xt_tru (xo_pk 1)) (xw_and1 (xt_lt (xo_pk 2) (XD.o xd_int))))) (xss_cons (xs_asg (XD.e (XE.d (xe_add (XE.o (xe_add (XE.o (xe_mul (XE.o (xe_call t c__law_draw (by decide) (xa_cons (xo_pk 0) (xa_cons (XD.o (XE.d (xe_pow (XD.o xd_int) (XD.o xd_int)))) xa_nil)))) (XE.o (xe_pow (XD.o xd_int) (XD.o xd_int))))) (XE.o (xe_mul (XE.o (xe_call t c__law_draw (by decide) (xa_cons (xo_pk 0) (xa_cons (XD.o (XE.d (xe_pow (XD.o xd_int) (XD.o xd_int)))) xa_nil)))) (XE.o (xe_pow (XD.o xd_int) (XD.o xd_int))))))) (XE.o (xe_call t c__law_draw (by decide) (xa_cons (xo_pk 0) (xa_cons (XD.o (XE.d (xe_pow (XD.o xd_int) (XD.o xd_int)))) xa_nil))))))) (xg_name 3 t.nd))
    (xss_one (xs_ret (XD.e (xd_if (xt_lt (xo_pk 2) (XD.o xd_int)) (xd_use 3) (XE.d (xe_sub (XD.o xd_int) (xo_pk 3)))))))) xss_nil)
    (xss_one (xs_ret (XD.e (XE.d (xe_sub (XE.o (xe_call t c__law_draw (by decide) (xa_cons (xo_pk 0) (xa_cons (XD.o xd_int) xa_nil)))) (XD.o xd_int))))))))))
theorem sc__law_numbers : FnScope N__law_numbers ["bag", "many", "size"] (defScope s__law_numbers) := ⟨rfl, rfl, rfl, by decide +kernel, rfl, by decide +kernel, by decide +kernel⟩
theorem ok__law_numbers {f : Addr} {fd : FuncData} (F : Fun K "_law_numbers" "_law_numbers" s__law_numbers f fd) (B : BX mg) (c__law_draw : Cal cad P w K mg base 1 "_law_draw" 2 m__law_draw) (c__law_mixed : Cal cad P w K mg base 2 "_law_mixed" 2 m__law_mixed) (c__law_number : Cal cad P w K mg base 2 "_law_number" 2 m__law_number) (c__law_of : Cal cad P w K mg base 2 "_law_of" 2 m__law_of) : FnOk P w K mg base (L2.CX P w) 3 f fd ["bag", "many", "size"] (spM ⟨K, cad⟩ 3 m__law_numbers) :=
  fn_ok (N := N__law_numbers) (k := 2) F sc__law_numbers (fun cdv A0 outer s H E t hp => (xss_cons (xs_asg (XD.e (XE.d (xe_eq t.units (XE.o (xe_call t c__law_draw (by decide) (xa_cons (xo_pk 0) (xa_cons (XD.o xd_int) xa_nil)))) (XD.o xd_int)))) (xg_name 3 t.nd))
    (xss_cons (xs_asg (xe_lst xds_nil) (xg_name 4 t.nd))
    (xss_cons (xs_for hp t.calm (xit_range1 B.b_range (xa_cons (xo_pk 1) xa_nil)) (xg_name 5 t.nd) (xss_cons (xs_asg (XD.e (XE.d (xe_call t c__law_draw (by decide) (xa_cons (xo_pk 0) (xa_cons (XD.o xd_int) xa_nil))))) (xg_name 6 t.nd))
    (xss_one (xs_if (XW.t (xw_and (xt_eq t.units (xo_pk 6) (XD.o xd_int)) (xw_and1 (xt_gt (xo_pk 5) (XD.o xd_int))))) (xss_cons (xs_par t.calm t.nd (xes_cons (XD.e (XE.d (xe_call t c__law_of (by decide) (xa_cons (xo_pk 0) (xa_cons (xo_pk 4) xa_nil))))) (xes_cons (XD.e (XE.d (xe_call t c__law_of (by decide) (xa_cons (xo_pk 0) (xa_cons (xo_pk 4) xa_nil))))) xes_nil)) (by decide))
    (xss_cons (xs_tup (n := 2) t.calm (xes_cons (XD.e (XE.d (xe_call t c__law_number (by decide) (xa_cons (xo_pk 0) (xa_cons (xo_pk 3) xa_nil))))) (xes_cons (XD.e (XE.d (xe_call t c__law_number (by decide) (xa_cons (xo_pk 0) (xa_cons (xo_pk 3) xa_nil))))) xes_nil)) (xgs_cons (xg_name 9 t.nd) (xgs_cons (xg_name 10 t.nd) xgs_nil)) (eCons_len (eCons_len eNil_len)) (by decide))
    (xss_one (xs_expr (xe_upd 4 PySem.F.slot_list_append PySem.F.type_list_append mt_append upd_append (xds_cons (XE.d (xe_comp (own := [("a", 11), ("b", 12)]) t.calm t.nd (xit_zip B.b_zip (xa_cons (xo_pk 7) (xa_cons (xo_pk 8) xa_nil))) (by show blkC N__law_numbers (defScope s__law_numbers) _ _ = true; decide +kernel) (fun _ _ _ _ _ => (xg_tup (l := 2) ((t.blk _ _ _ _ _)).calm (xgs_cons (xg_name 11 ((t.blk _ _ _ _ _)).nd) (xgs_cons (xg_name 12 ((t.blk _ _ _ _ _)).nd) xgs_nil)))) (fun _ _ _ _ _ => xts_nil) (fun _ _ _ _ _ => (XE.d (xe_add (XE.o (xe_mul (xo_pk 9) (xo_pk 11))) (XE.o (xe_mul (xo_pk 10) (xo_pk 12)))))) (by rfl))) xds_nil)))))) (xss_one (xs_if (XW.t (xw_and (xt_eq t.units (xo_pk 6) (XD.o xd_int)) (xw_and1 (xt_gt (xo_pk 5) (XD.o xd_int))))) (xss_one (xs_expr (xe_upd 4 PySem.F.slot_list_append PySem.F.type_list_append mt_append upd_append (xds_cons (XE.d (xe_list B.b_list (xa_cons (XE.o (xe_call t c__law_of (by decide) (xa_cons (xo_pk 0) (xa_cons (xo_pk 4) xa_nil)))) xa_nil))) xds_nil)))) (xss_one (xs_if (XW.t (xw_and (xt_eq t.units (xo_pk 6) (XD.o xd_int)) (xw_and1 (xt_eq t.units (XE.o (xe_call t c__law_draw (by decide) (xa_cons (xo_pk 0) (xa_cons (XD.o xd_int) xa_nil)))) (XD.o xd_int))))) (xss_one (xs_expr (xe_upd 4 PySem.F.slot_list_append PySem.F.type_list_append mt_append upd_append (xds_cons (XE.d (xe_mul (XE.o (xe_lst (xds_cons xd_int xds_nil))) (xo_pk 2))) xds_nil)))) (xss_one (xs_expr (xe_upd 4 PySem.F.slot_list_append PySem.F.type_list_append mt_append upd_append (xds_cons (XE.d (xe_comp (own := [("t", 13)]) t.calm t.nd (xit_range1 B.b_range (xa_cons (xo_pk 2) xa_nil)) (by show blkC N__law_numbers (defScope s__law_numbers) _ _ = true; decide +kernel) (fun _ _ _ _ _ => (xg_name 13 ((t.blk _ _ _ _ _)).nd)) (fun _ _ _ _ _ => xts_nil) (fun _ _ _ _ _ => (XE.d (xe_call ((t.blk _ _ _ _ _)) c__law_number (by decide) (xa_cons (xo_pk 0) (xa_cons (xo_pk 3) xa_nil))))) (by rfl))) xds_nil))))))))))))
    (xss_cons (xs_if (XW.t (xw_and (xt_gt (xo_pk 2) (XD.o xd_int)) (xw_and1 (xt_eq t.units (XE.o (xe_call t c__law_draw (by decide) (xa_cons (xo_pk 0) (xa_cons (XD.o xd_int) xa_nil)))) (XD.o xd_int))))) (xss_cons (xs_asg (XD.e (XE.d (xe_call t c__law_draw (by decide) (xa_cons (xo_pk 0) (xa_cons (xo_pk 2) xa_nil))))) (xg_name 14 t.nd))
    (xss_one (xs_setComp (own := [("some", 15)]) (i := 4) t.calm t.nd (xit_seq (xo_pk 4)) (by show blkC N__law_numbers (defScope s__law_numbers) _ _ = true; decide +kernel) (fun _ _ _ _ _ => (xg_name 15 ((t.blk _ _ _ _ _)).nd)) (fun _ _ _ _ _ => xts_nil) (fun _ _ _ _ _ => (XE.d (xe_add (XE.o (xe_add (XE.o (xe_sl (xo_pk 15) xi_none (xi_some (xd_use 14)))) (XE.o (xe_lst (xds_cons xd_int xds_nil))))) (XE.o (xe_sl (xo_pk 15) (xi_some (XE.d (xe_add (xo_pk 14) (XD.o xd_int)))) xi_none))))) (by rfl) (by rfl) (by rfl) (sw_true rfl rfl rfl (by decide +kernel)) id (fun _ h => h) SG.name))) xss_nil)
    (xss_one (xs_ret (XD.e (XE.d (xe_call t c__law_mixed (by decide) (xa_cons (xo_pk 0) (xa_cons (xo_pk 4) xa_nil))))))))))))
theorem sc__law_turned : FnScope N__law_turned ["items", "size"] (defScope s__law_turned) := ⟨rfl, rfl, rfl, by decide +kernel, rfl, by decide +kernel, by decide +kernel⟩
theorem ok__law_turned {f : Addr} {fd : FuncData} (F : Fun K "_law_turned" "_law_turned" s__law_turned f fd) (B : BX mg) : FnOk P w K mg base (L2.CX P w) 1 f fd ["items", "size"] (spM ⟨K, cad⟩ 2 m__law_turned) :=
  fn_ok (N := N__law_turned) (k := 0) F sc__law_turned (fun cdv A0 outer s H E t hp => (xss_one (xs_ret (XD.e (XE.d (xe_comp (own := [("t", 2)]) t.calm t.nd (xit_range1 B.b_range (xa_cons (xo_pk 1) xa_nil)) (by show blkC N__law_turned (defScope s__law_turned) _ _ = true; decide +kernel) (fun _ _ _ _ _ => (xg_name 2 ((t.blk _ _ _ _ _)).nd)) (fun _ _ _ _ _ => xts_nil) (fun _ _ _ _ _ => (XE.d (xe_comp (own := [("some", 3)]) ((t.blk _ _ _ _ _)).calm ((t.blk _ _ _ _ _)).nd (xit_seq (xo_pk 0)) (by show blkC N__law_turned (relS _ (defScope s__law_turned)) _ _ = true; decide +kernel) (fun _ _ _ _ _ => (xg_name 3 (((t.blk _ _ _ _ _).blk _ _ _ _ _)).nd)) (fun _ _ _ _ _ => xts_nil) (fun _ _ _ _ _ => (XE.d (xe_ix (xo_pk 3) (xo_pk 2)))) (by rfl)))) (by rfl)))))))
theorem sc__law_count : FnScope N__law_count ["items"] (defScope s__law_count) := ⟨rfl, rfl, rfl, by decide +kernel, rfl, by decide +kernel, by decide +kernel⟩
theorem ok__law_count {f : Addr} {fd : FuncData} (F : Fun K "_law_count" "_law_count" s__law_count f fd) (B : BX mg) : FnOk P w K mg base (L2.CX P w) 1 f fd ["items"] (spM ⟨K, cad⟩ 1 m__law_count) :=
  fn_ok (N := N__law_count) (k := 0) F sc__law_count (fun cdv A0 outer s H E t hp => (xss_cons (xs_tup (n := 2) t.calm (xes_cons (xe_comp (own := [("some", 3)]) t.calm t.nd (xit_seq (xo_pk 0)) (by show blkC N__law_count (defScope s__law_count) _ _ = true; decide +kernel) (fun _ _ _ _ _ => (xg_name 3 ((t.blk _ _ _ _ _)).nd)) (fun _ _ _ _ _ => xts_nil) (fun _ _ _ _ _ => (XE.d (xe_list B.b_list (xa_cons (xo_pk 3) xa_nil)))) (by rfl)) (xes_cons (XD.e xd_int) xes_nil)) (xgs_cons (xg_name 1 t.nd) (xgs_cons (xg_name 2 t.nd) xgs_nil)) (eCons_len (eCons_len eNil_len)) (by decide))
    (xss_cons (xs_for hp t.calm (xit_range1 B.b_range (xa_cons (XD.o (xd_if (xt_ne t.units (xo_pk 1) (XE.o (xe_lst xds_nil))) (XE.d (xe_len B.b_len (xa_cons (XE.o (xe_ix (xo_pk 1) (XD.o xd_int))) xa_nil))) xd_int)) xa_nil)) (xg_name 4 t.nd) (xss_cons (xs_setComp (own := [("k", 6)]) (i := 5) t.calm t.nd (xit_range2 B.b_range (xa_cons (xo_pk 2) (xa_cons (XE.o (xe_len B.b_len (xa_cons (xo_pk 1) xa_nil))) xa_nil))) (by show blkC N__law_count (defScope s__law_count) _ _ = true; decide +kernel) (fun _ _ _ _ _ => (xg_name 6 ((t.blk _ _ _ _ _)).nd)) (fun _ _ _ _ _ => (xts_one (xt_ne ((t.blk _ _ _ _ _)).units (XE.o (xe_ix (XE.o (xe_ix (xo_pk 1) (xo_pk 6))) (xo_pk 4))) (XD.o xd_int)))) (fun _ _ _ _ _ => (xd_use 6)) (by rfl) (by rfl) (by rfl) (sw_true rfl rfl rfl (by decide +kernel)) (fun m => mDE (mED m)) (fun _ h => h.d.e) SG.name)
    (xss_one (xs_if (xt_ne t.units (xo_pk 5) (XE.o (xe_lst xds_nil))) (xss_cons (xs_expr (xe_upd 1 PySem.F.slot_list_insert PySem.F.type_list_insert mt_insert upd_insert (xds_cons (xd_use 2) (xds_cons (XE.d (xe_upd 1 PySem.F.slot_list_pop PySem.F.type_list_pop mt_popAt upd_popAt (xds_cons (XE.d (xe_ix (xo_pk 5) (XD.o xd_int))) xds_nil))) xds_nil))))
    (xss_cons (xs_for hp t.calm (xit_range2 B.b_range (xa_cons (XE.o (xe_add (xo_pk 2) (XD.o xd_int))) (xa_cons (XE.o (xe_len B.b_len (xa_cons (xo_pk 1) xa_nil))) xa_nil))) (xg_name 6 t.nd) (xss_cons (xs_tup (n := 2) t.calm (xes_cons (XD.e (XE.d (xe_ix (XE.o (xe_ix (xo_pk 1) (xo_pk 2))) (xo_pk 4)))) (xes_cons (XD.e (XE.d (xe_ix (XE.o (xe_ix (xo_pk 1) (xo_pk 6))) (xo_pk 4)))) xes_nil)) (xgs_cons (xg_name 7 t.nd) (xgs_cons (xg_name 8 t.nd) xgs_nil)) (eCons_len (eCons_len eNil_len)) (by decide))
    (xss_one (xs_asg (XD.e (XE.d (xe_comp (own := [("x", 9), ("y", 10)]) t.calm t.nd (xit_zip B.b_zip (xa_cons (XE.o (xe_ix (xo_pk 1) (xo_pk 6))) (xa_cons (XE.o (xe_ix (xo_pk 1) (xo_pk 2))) xa_nil))) (by show blkC N__law_count (defScope s__law_count) _ _ = true; decide +kernel) (fun _ _ _ _ _ => (xg_tup (l := 2) ((t.blk _ _ _ _ _)).calm (xgs_cons (xg_name 9 ((t.blk _ _ _ _ _)).nd) (xgs_cons (xg_name 10 ((t.blk _ _ _ _ _)).nd) xgs_nil)))) (fun _ _ _ _ _ => xts_nil) (fun _ _ _ _ _ => (XE.d (xe_sub (XE.o (xe_mul (xo_pk 7) (xo_pk 9))) (XE.o (xe_mul (xo_pk 8) (xo_pk 10)))))) (by rfl)))) (xg_subL 1 (xd_use 6))))))
    (xss_one (xs_asg (XD.e (XE.d (xe_add (xo_pk 2) (XD.o xd_int)))) (xg_name 2 t.nd))))) xss_nil))))
    (xss_one (xs_ret (XD.e (xd_use 2)))))))
theorem sc__law_square_so : FnScope N__law_square_so ["bag", "square"] (defScope s__law_square_so) := ⟨rfl, rfl, rfl, by decide +kernel, rfl, by decide +kernel, by decide +kernel⟩
theorem ok__law_square_so {f : Addr} {fd : FuncData} (F : Fun K "_law_square_so" "_law_square_so" s__law_square_so f fd) (B : BX mg) (c__law_count : Cal cad P w K mg base 1 "_law_count" 1 m__law_count) (c__law_det : Cal cad P w K mg base 8 "_law_det" 1 (m__law_det 7)) (c__law_draw : Cal cad P w K mg base 1 "_law_draw" 2 m__law_draw) (c__law_like : Cal cad P w K mg base 7 "_law_like" 2 (m__law_like 6)) (c__law_turned : Cal cad P w K mg base 1 "_law_turned" 2 m__law_turned) (c_determinant : Cal cad P w K mg base 2 "determinant" 1 m_determinant) (c_independent_rows : Cal cad P w K mg base 2 "independent_rows" 1 m_independent_rows) (ck_determinant_0_rows : CalK cad P w K mg base 2 "determinant" 0 ["rows"] (fun a b => a ++ b) m_determinant) : FnOk P w K mg base (L2.CX P w) 9 f fd ["bag", "square"] (spM ⟨K, cad⟩ 2 m__law_square_so) :=
  fn_ok (N := N__law_square_so) (k := 8) F sc__law_square_so (fun cdv A0 outer s H E t hp => (xss_cons (xs_par t.calm t.nd (xes_cons (XD.e (XE.d (xe_len B.b_len (xa_cons (xo_pk 1) xa_nil)))) (xes_cons (XD.e (XE.d (xe_call t c__law_det (by decide) (xa_cons (xo_pk 1) xa_nil)))) xes_nil)) (by decide))
    (xss_cons (xs_setComp (own := [("some", 5)]) (i := 4) t.calm t.nd (xit_seq (xo_pk 1)) (by show blkC N__law_square_so (defScope s__law_square_so) _ _ = true; decide +kernel) (fun _ _ _ _ _ => (xg_name 5 ((t.blk _ _ _ _ _)).nd)) (fun _ _ _ _ _ => xts_nil) (fun _ _ _ _ _ => (XE.d (xe_list B.b_list (xa_cons (xo_pk 5) xa_nil)))) (by rfl) (by rfl) (by rfl) (sw_true rfl rfl rfl (by decide +kernel)) id (fun _ h => h) SG.name)
    (xss_cons (xs_if (XW.t (xw_or (xt_not (xt_tru (XE.o (xe_call t c__law_like (by decide) (xa_cons (XD.o (XE.d (xe_call t c_determinant (by decide) (xa_cons (xo_pk 4) xa_nil)))) (xa_cons (xo_pk 3) xa_nil)))))) (xw_or1 (xt_not (xt_tru (XE.o (xe_call t c__law_like (by decide) (xa_cons (xo_pk 4) (xa_cons (xo_pk 1) xa_nil))))))))) (xss_one (xs_ret (XD.e xd_bl))) xss_nil)
    (xss_cons (xs_if (xt_not (xt_tru (XE.o (xe_call t c__law_like (by decide) (xa_cons (XD.o (XE.d (xe_call t c_determinant (by decide) (xa_cons (XD.o (XE.d (xe_tuple B.b_tuple (xa_cons (XE.o (xe_comp (own := [("some", 5)]) t.calm t.nd (xit_seq (XE.o (xe_call t c__law_turned (by decide) (xa_cons (xo_pk 1) (xa_cons (xo_pk 2) xa_nil))))) (by show blkC N__law_square_so (defScope s__law_square_so) _ _ = true; decide +kernel) (fun _ _ _ _ _ => (xg_name 5 ((t.blk _ _ _ _ _)).nd)) (fun _ _ _ _ _ => xts_nil) (fun _ _ _ _ _ => (XE.d (xe_tuple B.b_tuple (xa_cons (xo_pk 5) xa_nil)))) (by rfl))) xa_nil)))) xa_nil)))) (xa_cons (xo_pk 3) xa_nil)))))) (xss_one (xs_ret (XD.e xd_bl))) xss_nil)
    (xss_cons (xs_if (xt_gt (xo_pk 2) (XD.o xd_int)) (xss_cons (xs_asg (XD.e (XE.d (xe_call t c__law_draw (by decide) (xa_cons (xo_pk 0) (xa_cons (xo_pk 2) xa_nil))))) (xg_name 6 t.nd))
    (xss_cons (xs_asg (XD.e (XE.d (xe_mod (XE.o (xe_int B.b_int (xa_cons (XE.o (xe_add (XE.o (xe_add (xo_pk 6) (XD.o xd_int))) (XE.o (xe_call t c__law_draw (by decide) (xa_cons (xo_pk 0) (xa_cons (XD.o (XE.d (xe_sub (xo_pk 2) (XD.o xd_int)))) xa_nil)))))) xa_nil))) (xo_pk 2)))) (xg_name 7 t.nd))
    (xss_cons (xs_tup (n := 2) t.calm (xes_cons (XD.e (XE.d (xe_ix (xo_pk 4) (xo_pk 7)))) (xes_cons (XD.e (XE.d (xe_ix (xo_pk 4) (xo_pk 6)))) xes_nil)) (xgs_cons (xg_subL 4 (xd_use 6)) (xgs_cons (xg_subL 4 (xd_use 7)) xgs_nil)) (eCons_len (eCons_len eNil_len)) (by decide))
    (xss_one (xs_if (xt_not (xt_tru (XE.o (xe_call t c__law_like (by decide) (xa_cons (XD.o (XE.d (xe_callK0 t ck_determinant_0_rows (by decide) (xk_cons (XD.o (xd_use 4)) xk_nil) (aCons_len aNil_len)))) (xa_cons (XD.o (XE.d (xe_sub (XD.o xd_int) (xo_pk 3)))) xa_nil)))))) (xss_one (xs_ret (XD.e xd_bl))) xss_nil))))) xss_nil)
    (xss_cons (xs_asg (XD.e (XE.d (xe_eq t.units (XE.o (xe_call t c_independent_rows (by decide) (xa_cons (xo_pk 1) xa_nil))) (xo_pk 2)))) (xg_name 8 t.nd))
    (xss_one (xs_ret (XD.e (xd_and (XE.d (xe_eq t.units (xo_pk 8) (XE.o (xe_ne t.units (xo_pk 3) (XD.o xd_int))))) (xd_one (XE.d (xe_call t c__law_like (by decide) (xa_cons (XD.o (XE.d (xe_call t c_independent_rows (by decide) (xa_cons (xo_pk 4) xa_nil)))) (xa_cons (XD.o (XE.d (xe_call t c__law_count (by decide) (xa_cons (xo_pk 1) xa_nil)))) xa_nil))))))))))))))))
theorem sc_law : FnScope N_law ["script"] (defScope s_law) := ⟨rfl, rfl, rfl, by decide +kernel, rfl, by decide +kernel, by decide +kernel⟩
theorem ok_law {f : Addr} {fd : FuncData} (F : Fun K "law" "law" s_law f fd) (B : BX mg) (c__law_bag : Cal cad P w K mg base 1 "_law_bag" 1 m__law_bag) (c__law_count : Cal cad P w K mg base 1 "_law_count" 1 m__law_count) (c__law_draw : Cal cad P w K mg base 1 "_law_draw" 2 m__law_draw) (c__law_like : Cal cad P w K mg base 7 "_law_like" 2 (m__law_like 6)) (c__law_numbers : Cal cad P w K mg base 3 "_law_numbers" 3 m__law_numbers) (c__law_of : Cal cad P w K mg base 2 "_law_of" 2 m__law_of) (c__law_square_so : Cal cad P w K mg base 9 "_law_square_so" 2 m__law_square_so) (c__law_turned : Cal cad P w K mg base 1 "_law_turned" 2 m__law_turned) (c_determinant : Cal cad P w K mg base 2 "determinant" 1 m_determinant) (c_independent_rows : Cal cad P w K mg base 2 "independent_rows" 1 m_independent_rows) (ck_independent_rows_0_rows : CalK cad P w K mg base 2 "independent_rows" 0 ["rows"] (fun a b => a ++ b) m_independent_rows) : FnOk P w K mg base (L2.CX P w) 10 f fd ["script"] (spM ⟨K, cad⟩ 1 m_law) :=
  fn_ok (N := N_law) (k := 9) F sc_law (fun cdv A0 outer s H E t hp => (xss_cons (xs_asg (xe_call t c__law_bag (by decide) (xa_cons (xo_pk 0) xa_nil)) (xg_name 1 t.nd))
    (xss_cons (xs_if (xt_not (xt_tru (XE.o (xe_call t c__law_like (by decide) (xa_cons (XD.o (XE.d (xe_lst (xds_cons (XE.d (xe_call t c_determinant (by decide) (xa_cons (XD.o (XE.d (xe_lst xds_nil))) xa_nil))) (xds_cons (XE.d (xe_call t c_independent_rows (by decide) (xa_cons (XD.o (XE.d (xe_lst xds_nil))) xa_nil))) (xds_cons (XE.d (xe_call t c_independent_rows (by decide) (xa_cons (XD.o (xd_tup xds_nil)) xa_nil))) (xds_cons (XE.d (xe_call t c_determinant (by decide) (xa_cons (XD.o (xd_tup xds_nil)) xa_nil))) xds_nil))))))) (xa_cons (XD.o (XE.d (xe_lst (xds_cons xd_int (xds_cons xd_int (xds_cons xd_int (xds_cons xd_int xds_nil))))))) xa_nil)))))) (xss_one (xs_ret (XD.e xd_bl))) xss_nil)
    (xss_cons (xs_for hp t.calm (xit_range1 B.b_range (xa_cons (XD.o xd_int) xa_nil)) (xg_name 2 t.nd) (xss_cons (xs_asg (XD.e (XE.d (xe_call t c__law_of (by decide) (xa_cons (xo_pk 1) (xa_cons (XD.o (XE.d (xe_lst (xds_cons xd_int (xds_cons xd_int (xds_cons xd_int (xds_cons xd_int (xds_cons xd_int (xds_cons xd_int xds_nil))))))))) xa_nil))))) (xg_name 3 t.nd))
    (xss_cons (xs_asg (XD.e (XE.d (xe_call t c__law_numbers (by decide) (xa_cons (xo_pk 1) (xa_cons (xo_pk 3) (xa_cons (xo_pk 3) xa_nil)))))) (xg_name 4 t.nd))
    (xss_cons (xs_if (xt_not (xt_tru (XE.o (xe_call t c__law_square_so (by decide) (xa_cons (xo_pk 1) (xa_cons (xo_pk 4) xa_nil)))))) (xss_one (xs_ret (XD.e xd_bl))) xss_nil)
    (xss_cons (xs_par t.calm t.nd (xes_cons (XD.e (XE.d (xe_call t c__law_draw (by decide) (xa_cons (xo_pk 1) (xa_cons (XD.o xd_int) xa_nil))))) (xes_cons (XD.e (XE.d (xe_call t c__law_of (by decide) (xa_cons (xo_pk 1) (xa_cons (XD.o (XE.d (xe_lst (xds_cons xd_int (xds_cons xd_int (xds_cons xd_int (xds_cons xd_int (xds_cons xd_int (xds_cons xd_int (xds_cons xd_int xds_nil)))))))))) xa_nil))))) xes_nil)) (by decide))
    (xss_cons (xs_asg (XD.e (XE.d (xe_call t c__law_numbers (by decide) (xa_cons (xo_pk 1) (xa_cons (xo_pk 5) (xa_cons (xo_pk 3) xa_nil)))))) (xg_name 6 t.nd))
    (xss_cons (xs_setComp (own := [("some", 8)]) (i := 7) t.calm t.nd (xit_seq (xo_pk 6)) (by show blkC N_law (defScope s_law) _ _ = true; decide +kernel) (fun _ _ _ _ _ => (xg_name 8 ((t.blk _ _ _ _ _)).nd)) (fun _ _ _ _ _ => xts_nil) (fun _ _ _ _ _ => (XE.d (xe_list B.b_list (xa_cons (xo_pk 8) xa_nil)))) (by rfl) (by rfl) (by rfl) (sw_true rfl rfl rfl (by decide +kernel)) (fun m => mDE (mED m)) (fun _ h => h.d.e) SG.name)
    (xss_cons (xs_asg (XD.e (XE.d (xe_call t c__law_count (by decide) (xa_cons (xo_pk 6) xa_nil)))) (xg_name 9 t.nd))
    (xss_cons (xs_if (XW.t (xw_or (xt_not (xt_tru (XE.o (xe_call t c__law_like (by decide) (xa_cons (XD.o (XE.d (xe_call t c_independent_rows (by decide) (xa_cons (xo_pk 7) xa_nil)))) (xa_cons (xo_pk 9) xa_nil)))))) (xw_or1 (xt_not (xt_tru (XE.o (xe_call t c__law_like (by decide) (xa_cons (xo_pk 7) (xa_cons (xo_pk 6) xa_nil))))))))) (xss_one (xs_ret (XD.e xd_bl))) xss_nil)
    (xss_cons (xs_if (XW.t (xw_and (xt_gt (xo_pk 5) (XD.o xd_int)) (xw_and1 (xt_not (xt_tru (XE.o (xe_call t c__law_like (by decide) (xa_cons (XD.o (XE.d (xe_callK0 t ck_independent_rows_0_rows (by decide) (xk_cons (XD.o (XE.d (xe_call t c__law_turned (by decide) (xa_cons (xo_pk 6) (xa_cons (xo_pk 3) xa_nil))))) xk_nil) (aCons_len aNil_len)))) (xa_cons (xo_pk 9) xa_nil))))))))) (xss_one (xs_ret (XD.e xd_bl))) xss_nil)
    (xss_cons (xs_if (xt_not (xt_tru (XE.o (xe_call t c__law_like (by decide) (xa_cons (XD.o (XE.d (xe_call t c_independent_rows (by decide) (xa_cons (XD.o (XE.d (xe_add (xo_pk 7) (xo_pk 7)))) xa_nil)))) (xa_cons (xo_pk 9) xa_nil)))))) (xss_one (xs_ret (XD.e xd_bl))) xss_nil)
    (xss_one (xs_if (XW.t (xw_and (xt_gt (xo_pk 3) (XD.o xd_int)) (xw_and1 (xt_not (xt_tru (XE.o (xe_call t c__law_like (by decide) (xa_cons (XD.o (XE.d (xe_call t c_independent_rows (by decide) (xa_cons (XD.o (XE.d (xe_add (xo_pk 7) (XE.o (xe_lst (xds_cons (XE.d (xe_mul (XE.o (xe_lst (xds_cons xd_int xds_nil))) (xo_pk 3))) xds_nil)))))) xa_nil)))) (xa_cons (xo_pk 9) xa_nil))))))))) (xss_one (xs_ret (XD.e xd_bl))) xss_nil)))))))))))))
    (xss_one (xs_ret (XD.e xd_bl)))))))
end
end NS
namespace NS
open PySem L2
theorem all_mk {l : PySem.W.OpenLaw} {w : World} {K : PySem.W.Frag} {h : Heap} {mg : Str → Option Value} {fa : Addr} {f_q0 : Addr} {od_q0 an_q0 : Option Addr} {sl_q0 : Array (Option Value)} {oc_q0 kV_q0 dc_q0 pm_q0 cd_q0 ct_q0 : Value}
    {f_q1 : Addr} {od_q1 an_q1 : Option Addr} {sl_q1 : Array (Option Value)} {oc_q1 kV_q1 dc_q1 pm_q1 cd_q1 ct_q1 : Value}
    {f_q2 : Addr} {od_q2 an_q2 : Option Addr} {sl_q2 : Array (Option Value)} {oc_q2 kV_q2 dc_q2 pm_q2 cd_q2 ct_q2 : Value}
    {f_q3 : Addr} {od_q3 an_q3 : Option Addr} {sl_q3 : Array (Option Value)} {oc_q3 kV_q3 dc_q3 pm_q3 cd_q3 ct_q3 : Value}
    {f_q4 : Addr} {od_q4 an_q4 : Option Addr} {sl_q4 : Array (Option Value)} {oc_q4 kV_q4 dc_q4 pm_q4 cd_q4 ct_q4 : Value}
    {f_q5 : Addr} {od_q5 an_q5 : Option Addr} {sl_q5 : Array (Option Value)} {oc_q5 kV_q5 dc_q5 pm_q5 cd_q5 ct_q5 : Value}
    {f_q6 : Addr} {od_q6 an_q6 : Option Addr} {sl_q6 : Array (Option Value)} {oc_q6 kV_q6 dc_q6 pm_q6 cd_q6 ct_q6 : Value}
    {f_q7 : Addr} {od_q7 an_q7 : Option Addr} {sl_q7 : Array (Option Value)} {oc_q7 kV_q7 dc_q7 pm_q7 cd_q7 ct_q7 : Value}
    {f_q8 : Addr} {od_q8 an_q8 : Option Addr} {sl_q8 : Array (Option Value)} {oc_q8 kV_q8 dc_q8 pm_q8 cd_q8 ct_q8 : Value}
    {f_q9 : Addr} {od_q9 an_q9 : Option Addr} {sl_q9 : Array (Option Value)} {oc_q9 kV_q9 dc_q9 pm_q9 cd_q9 ct_q9 : Value}
    {f_q10 : Addr} {od_q10 an_q10 : Option Addr} {sl_q10 : Array (Option Value)} {oc_q10 kV_q10 dc_q10 pm_q10 cd_q10 ct_q10 : Value}
    {f_q11 : Addr} {od_q11 an_q11 : Option Addr} {sl_q11 : Array (Option Value)} {oc_q11 kV_q11 dc_q11 pm_q11 cd_q11 ct_q11 : Value}
    {f_q12 : Addr} {od_q12 an_q12 : Option Addr} {sl_q12 : Array (Option Value)} {oc_q12 kV_q12 dc_q12 pm_q12 cd_q12 ct_q12 : Value}
    {f_q13 : Addr} {od_q13 an_q13 : Option Addr} {sl_q13 : Array (Option Value)} {oc_q13 kV_q13 dc_q13 pm_q13 cd_q13 ct_q13 : Value}
    {f_q14 : Addr} {od_q14 an_q14 : Option Addr} {sl_q14 : Array (Option Value)} {oc_q14 kV_q14 dc_q14 pm_q14 cd_q14 ct_q14 : Value}
    (X : K.In h) (G : h.Ns mainGlobals mg) (hfa : mg "law" = some (.ref fa))
    (a_q0 : PySem.W.nsIn K mainGlobals "cleared" = some (some (.ref f_q0))) (l_q0 : K.lookup f_q0 = some ⟨oc_q0, od_q0, .func (PySem.W.fnOf "cleared" "cleared" (defArgs s_cleared) (defBody s_cleared) (defScope s_cleared) .none kV_q0 dc_q0 pm_q0 an_q0 cd_q0 ct_q0), sl_q0⟩) (c_q0 : PySem.W.codeIn K cd_q0 "cleared" = true) (k_q0 : PySem.W.keepIn K (.ref f_q0) = true)
    (a_q1 : PySem.W.nsIn K mainGlobals "independent_rows" = some (some (.ref f_q1))) (l_q1 : K.lookup f_q1 = some ⟨oc_q1, od_q1, .func (PySem.W.fnOf "independent_rows" "independent_rows" (defArgs s_independent_rows) (defBody s_independent_rows) (defScope s_independent_rows) .none kV_q1 dc_q1 pm_q1 an_q1 cd_q1 ct_q1), sl_q1⟩) (c_q1 : PySem.W.codeIn K cd_q1 "independent_rows" = true) (k_q1 : PySem.W.keepIn K (.ref f_q1) = true)
    (a_q2 : PySem.W.nsIn K mainGlobals "determinant" = some (some (.ref f_q2))) (l_q2 : K.lookup f_q2 = some ⟨oc_q2, od_q2, .func (PySem.W.fnOf "determinant" "determinant" (defArgs s_determinant) (defBody s_determinant) (defScope s_determinant) .none kV_q2 dc_q2 pm_q2 an_q2 cd_q2 ct_q2), sl_q2⟩) (c_q2 : PySem.W.codeIn K cd_q2 "determinant" = true) (k_q2 : PySem.W.keepIn K (.ref f_q2) = true)
    (a_q3 : PySem.W.nsIn K mainGlobals "_law_bag" = some (some (.ref f_q3))) (l_q3 : K.lookup f_q3 = some ⟨oc_q3, od_q3, .func (PySem.W.fnOf "_law_bag" "_law_bag" (defArgs s__law_bag) (defBody s__law_bag) (defScope s__law_bag) .none kV_q3 dc_q3 pm_q3 an_q3 cd_q3 ct_q3), sl_q3⟩) (c_q3 : PySem.W.codeIn K cd_q3 "_law_bag" = true) (k_q3 : PySem.W.keepIn K (.ref f_q3) = true)
    (a_q4 : PySem.W.nsIn K mainGlobals "_law_draw" = some (some (.ref f_q4))) (l_q4 : K.lookup f_q4 = some ⟨oc_q4, od_q4, .func (PySem.W.fnOf "_law_draw" "_law_draw" (defArgs s__law_draw) (defBody s__law_draw) (defScope s__law_draw) .none kV_q4 dc_q4 pm_q4 an_q4 cd_q4 ct_q4), sl_q4⟩) (c_q4 : PySem.W.codeIn K cd_q4 "_law_draw" = true) (k_q4 : PySem.W.keepIn K (.ref f_q4) = true)
    (a_q5 : PySem.W.nsIn K mainGlobals "_law_of" = some (some (.ref f_q5))) (l_q5 : K.lookup f_q5 = some ⟨oc_q5, od_q5, .func (PySem.W.fnOf "_law_of" "_law_of" (defArgs s__law_of) (defBody s__law_of) (defScope s__law_of) .none kV_q5 dc_q5 pm_q5 an_q5 cd_q5 ct_q5), sl_q5⟩) (c_q5 : PySem.W.codeIn K cd_q5 "_law_of" = true) (k_q5 : PySem.W.keepIn K (.ref f_q5) = true)
    (a_q6 : PySem.W.nsIn K mainGlobals "_law_mixed" = some (some (.ref f_q6))) (l_q6 : K.lookup f_q6 = some ⟨oc_q6, od_q6, .func (PySem.W.fnOf "_law_mixed" "_law_mixed" (defArgs s__law_mixed) (defBody s__law_mixed) (defScope s__law_mixed) .none kV_q6 dc_q6 pm_q6 an_q6 cd_q6 ct_q6), sl_q6⟩) (c_q6 : PySem.W.codeIn K cd_q6 "_law_mixed" = true) (k_q6 : PySem.W.keepIn K (.ref f_q6) = true)
    (a_q7 : PySem.W.nsIn K mainGlobals "_law_like" = some (some (.ref f_q7))) (l_q7 : K.lookup f_q7 = some ⟨oc_q7, od_q7, .func (PySem.W.fnOf "_law_like" "_law_like" (defArgs s__law_like) (defBody s__law_like) (defScope s__law_like) .none kV_q7 dc_q7 pm_q7 an_q7 cd_q7 ct_q7), sl_q7⟩) (c_q7 : PySem.W.codeIn K cd_q7 "_law_like" = true) (k_q7 : PySem.W.keepIn K (.ref f_q7) = true)
    (a_q8 : PySem.W.nsIn K mainGlobals "_law_det" = some (some (.ref f_q8))) (l_q8 : K.lookup f_q8 = some ⟨oc_q8, od_q8, .func (PySem.W.fnOf "_law_det" "_law_det" (defArgs s__law_det) (defBody s__law_det) (defScope s__law_det) .none kV_q8 dc_q8 pm_q8 an_q8 cd_q8 ct_q8), sl_q8⟩) (c_q8 : PySem.W.codeIn K cd_q8 "_law_det" = true) (k_q8 : PySem.W.keepIn K (.ref f_q8) = true)
    (a_q9 : PySem.W.nsIn K mainGlobals "_law_number" = some (some (.ref f_q9))) (l_q9 : K.lookup f_q9 = some ⟨oc_q9, od_q9, .func (PySem.W.fnOf "_law_number" "_law_number" (defArgs s__law_number) (defBody s__law_number) (defScope s__law_number) .none kV_q9 dc_q9 pm_q9 an_q9 cd_q9 ct_q9), sl_q9⟩) (c_q9 : PySem.W.codeIn K cd_q9 "_law_number" = true) (k_q9 : PySem.W.keepIn K (.ref f_q9) = true)
    (a_q10 : PySem.W.nsIn K mainGlobals "_law_numbers" = some (some (.ref f_q10))) (l_q10 : K.lookup f_q10 = some ⟨oc_q10, od_q10, .func (PySem.W.fnOf "_law_numbers" "_law_numbers" (defArgs s__law_numbers) (defBody s__law_numbers) (defScope s__law_numbers) .none kV_q10 dc_q10 pm_q10 an_q10 cd_q10 ct_q10), sl_q10⟩) (c_q10 : PySem.W.codeIn K cd_q10 "_law_numbers" = true) (k_q10 : PySem.W.keepIn K (.ref f_q10) = true)
    (a_q11 : PySem.W.nsIn K mainGlobals "_law_turned" = some (some (.ref f_q11))) (l_q11 : K.lookup f_q11 = some ⟨oc_q11, od_q11, .func (PySem.W.fnOf "_law_turned" "_law_turned" (defArgs s__law_turned) (defBody s__law_turned) (defScope s__law_turned) .none kV_q11 dc_q11 pm_q11 an_q11 cd_q11 ct_q11), sl_q11⟩) (c_q11 : PySem.W.codeIn K cd_q11 "_law_turned" = true) (k_q11 : PySem.W.keepIn K (.ref f_q11) = true)
    (a_q12 : PySem.W.nsIn K mainGlobals "_law_count" = some (some (.ref f_q12))) (l_q12 : K.lookup f_q12 = some ⟨oc_q12, od_q12, .func (PySem.W.fnOf "_law_count" "_law_count" (defArgs s__law_count) (defBody s__law_count) (defScope s__law_count) .none kV_q12 dc_q12 pm_q12 an_q12 cd_q12 ct_q12), sl_q12⟩) (c_q12 : PySem.W.codeIn K cd_q12 "_law_count" = true) (k_q12 : PySem.W.keepIn K (.ref f_q12) = true)
    (a_q13 : PySem.W.nsIn K mainGlobals "_law_square_so" = some (some (.ref f_q13))) (l_q13 : K.lookup f_q13 = some ⟨oc_q13, od_q13, .func (PySem.W.fnOf "_law_square_so" "_law_square_so" (defArgs s__law_square_so) (defBody s__law_square_so) (defScope s__law_square_so) .none kV_q13 dc_q13 pm_q13 an_q13 cd_q13 ct_q13), sl_q13⟩) (c_q13 : PySem.W.codeIn K cd_q13 "_law_square_so" = true) (k_q13 : PySem.W.keepIn K (.ref f_q13) = true)
    (a_q14 : PySem.W.nsIn K mainGlobals "law" = some (some (.ref f_q14))) (l_q14 : K.lookup f_q14 = some ⟨oc_q14, od_q14, .func (PySem.W.fnOf "law" "law" (defArgs s_law) (defBody s_law) (defScope s_law) .none kV_q14 dc_q14 pm_q14 an_q14 cd_q14 ct_q14), sl_q14⟩) (c_q14 : PySem.W.codeIn K cd_q14 "law" = true) (k_q14 : PySem.W.keepIn K (.ref f_q14) = true)
    (z_all : PySem.W.nsIn K mainGlobals "all" = some none)
    (z_bool : PySem.W.nsIn K mainGlobals "bool" = some none)
    (z_enumerate : PySem.W.nsIn K mainGlobals "enumerate" = some none)
    (z_int : PySem.W.nsIn K mainGlobals "int" = some none)
    (z_isinstance : PySem.W.nsIn K mainGlobals "isinstance" = some none)
    (z_len : PySem.W.nsIn K mainGlobals "len" = some none)
    (z_list : PySem.W.nsIn K mainGlobals "list" = some none)
    (z_range : PySem.W.nsIn K mainGlobals "range" = some none)
    (z_str : PySem.W.nsIn K mainGlobals "str" = some none)
    (z_tuple : PySem.W.nsIn K mainGlobals "tuple" = some none)
    (z_zip : PySem.W.nsIn K mainGlobals "zip" = some none) :
    ∃ fd : FuncData, (∀ (s : Shared) (v : Value), BindsTo s fd ⟨[v], []⟩ [("script", v)]) ∧ ∀ base : Heap, K.In base → base.Ns mainGlobals mg → FnOk l.prog w K mg base (L2.CX l.prog w) 10 fa fd ["script"] (spM ⟨K, fun _ => 0⟩ 1 m_law) := by
  have e := hfa.symm.trans (PySem.W.mg_of X G a_q14)
  cases e
  have B : BX mg := ⟨PySem.W.mg_none_of X G z_all, PySem.W.mg_none_of X G z_bool, PySem.W.mg_none_of X G z_enumerate, PySem.W.mg_none_of X G z_int, PySem.W.mg_none_of X G z_isinstance, PySem.W.mg_none_of X G z_len, PySem.W.mg_none_of X G z_list, PySem.W.mg_none_of X G z_range, PySem.W.mg_none_of X G z_str, PySem.W.mg_none_of X G z_tuple, PySem.W.mg_none_of X G z_zip⟩
  have F_q0 := fun_mk (st := s_cleared) l_q0 c_q0 k_q0
  have g_q0 := PySem.W.mg_of X G a_q0
  have b_q0 := F_q0.binds (ps := ["row", "chosen", "column", "below"]) fun _ _ _ _ _ _ us hl => match us, hl with | [_, _, _, _], _ => rfl
  have F_q1 := fun_mk (st := s_independent_rows) l_q1 c_q1 k_q1
  have g_q1 := PySem.W.mg_of X G a_q1
  have b_q1 := F_q1.binds (ps := ["rows"]) fun _ _ _ _ _ _ us hl => match us, hl with | [_], _ => rfl
  have F_q2 := fun_mk (st := s_determinant) l_q2 c_q2 k_q2
  have g_q2 := PySem.W.mg_of X G a_q2
  have b_q2 := F_q2.binds (ps := ["rows"]) fun _ _ _ _ _ _ us hl => match us, hl with | [_], _ => rfl
  have F_q3 := fun_mk (st := s__law_bag) l_q3 c_q3 k_q3
  have g_q3 := PySem.W.mg_of X G a_q3
  have b_q3 := F_q3.binds (ps := ["script"]) fun _ _ _ _ _ _ us hl => match us, hl with | [_], _ => rfl
  have F_q4 := fun_mk (st := s__law_draw) l_q4 c_q4 k_q4
  have g_q4 := PySem.W.mg_of X G a_q4
  have b_q4 := F_q4.binds (ps := ["bag", "size"]) fun _ _ _ _ _ _ us hl => match us, hl with | [_, _], _ => rfl
  have F_q5 := fun_mk (st := s__law_of) l_q5 c_q5 k_q5
  have g_q5 := PySem.W.mg_of X G a_q5
  have b_q5 := F_q5.binds (ps := ["bag", "things"]) fun _ _ _ _ _ _ us hl => match us, hl with | [_, _], _ => rfl
  have F_q6 := fun_mk (st := s__law_mixed) l_q6 c_q6 k_q6
  have g_q6 := PySem.W.mg_of X G a_q6
  have b_q6 := F_q6.binds (ps := ["bag", "things"]) fun _ _ _ _ _ _ us hl => match us, hl with | [_, _], _ => rfl
  have F_q7 := fun_mk (st := s__law_like) l_q7 c_q7 k_q7
  have g_q7 := PySem.W.mg_of X G a_q7
  have b_q7 := F_q7.binds (ps := ["told", "due"]) fun _ _ _ _ _ _ us hl => match us, hl with | [_, _], _ => rfl
  have F_q8 := fun_mk (st := s__law_det) l_q8 c_q8 k_q8
  have g_q8 := PySem.W.mg_of X G a_q8
  have b_q8 := F_q8.binds (ps := ["square"]) fun _ _ _ _ _ _ us hl => match us, hl with | [_], _ => rfl
  have F_q9 := fun_mk (st := s__law_number) l_q9 c_q9 k_q9
  have g_q9 := PySem.W.mg_of X G a_q9
  have b_q9 := F_q9.binds (ps := ["bag", "great"]) fun _ _ _ _ _ _ us hl => match us, hl with | [_, _], _ => rfl
  have F_q10 := fun_mk (st := s__law_numbers) l_q10 c_q10 k_q10
  have g_q10 := PySem.W.mg_of X G a_q10
  have b_q10 := F_q10.binds (ps := ["bag", "many", "size"]) fun _ _ _ _ _ _ us hl => match us, hl with | [_, _, _], _ => rfl
  have F_q11 := fun_mk (st := s__law_turned) l_q11 c_q11 k_q11
  have g_q11 := PySem.W.mg_of X G a_q11
  have b_q11 := F_q11.binds (ps := ["items", "size"]) fun _ _ _ _ _ _ us hl => match us, hl with | [_, _], _ => rfl
  have F_q12 := fun_mk (st := s__law_count) l_q12 c_q12 k_q12
  have g_q12 := PySem.W.mg_of X G a_q12
  have b_q12 := F_q12.binds (ps := ["items"]) fun _ _ _ _ _ _ us hl => match us, hl with | [_], _ => rfl
  have F_q13 := fun_mk (st := s__law_square_so) l_q13 c_q13 k_q13
  have g_q13 := PySem.W.mg_of X G a_q13
  have b_q13 := F_q13.binds (ps := ["bag", "square"]) fun _ _ _ _ _ _ us hl => match us, hl with | [_, _], _ => rfl
  have F_q14 := fun_mk (st := s_law) l_q14 c_q14 k_q14
  have g_q14 := PySem.W.mg_of X G a_q14
  have b_q14 := F_q14.binds (ps := ["script"]) fun _ _ _ _ _ _ us hl => match us, hl with | [_], _ => rfl
  refine ⟨PySem.W.fnOf "law" "law" (defArgs s_law) (defBody s_law) (defScope s_law) .none kV_q14 dc_q14 pm_q14 an_q14 cd_q14 ct_q14, fun s v => .of_eq rfl, fun base hb1 hb2 => ?_⟩
  have o_q0 := ok_cleared (P := l.prog) (w := w) (base := base) (cad := fun _ => 0) F_q0 B
  have c_cleared := cal_of F_q0 o_q0 g_q0 b_q0 (fun _ h => mFn_len h)
  have o_q1 := ok_independent_rows (P := l.prog) (w := w) (base := base) (cad := fun _ => 0) F_q1 B c_cleared
  have c_independent_rows := cal_of F_q1 o_q1 g_q1 b_q1 (fun _ h => mFn_len h)
  have ck_independent_rows_0_rows := calk_app (n := 0) (ks := ["rows"]) F_q1 o_q1 g_q1 (fun _ h => mFn_len h) fun _ _ _ _ _ _ us ws h1 h2 => match us, ws, h1, h2 with | [], [_], _, _ => rfl
  have o_q2 := ok_determinant (P := l.prog) (w := w) (base := base) (cad := fun _ => 0) F_q2 B c_cleared
  have c_determinant := cal_of F_q2 o_q2 g_q2 b_q2 (fun _ h => mFn_len h)
  have ck_determinant_0_rows := calk_app (n := 0) (ks := ["rows"]) F_q2 o_q2 g_q2 (fun _ h => mFn_len h) fun _ _ _ _ _ _ us ws h1 h2 => match us, ws, h1, h2 with | [], [_], _, _ => rfl
  have o_q3 := ok__law_bag (P := l.prog) (w := w) (base := base) (cad := fun _ => 0) F_q3 B
  have c__law_bag := cal_of F_q3 o_q3 g_q3 b_q3 (fun _ h => mFn_len h)
  have o_q4 := ok__law_draw (P := l.prog) (w := w) (base := base) (cad := fun _ => 0) F_q4 B
  have c__law_draw := cal_of F_q4 o_q4 g_q4 b_q4 (fun _ h => mFn_len h)
  have o_q5 := ok__law_of (P := l.prog) (w := w) (base := base) (cad := fun _ => 0) F_q5 B c__law_draw
  have c__law_of := cal_of F_q5 o_q5 g_q5 b_q5 (fun _ h => mFn_len h)
  have o_q6 := ok__law_mixed (P := l.prog) (w := w) (base := base) (cad := fun _ => 0) F_q6 B c__law_draw
  have c__law_mixed := cal_of F_q6 o_q6 g_q6 b_q6 (fun _ h => mFn_len h)
  have o_q7 := ok__law_like (P := l.prog) (w := w) (base := base) (cad := fun _ => 0) F_q7 g_q7 b_q7 B 6 (by omega)
  have c__law_like := cal_of F_q7 o_q7 g_q7 b_q7 (fun _ h => mFn_len h)
  have o_q8 := ok__law_det (P := l.prog) (w := w) (base := base) (cad := fun _ => 0) F_q8 g_q8 b_q8 B 7 (by omega)
  have c__law_det := cal_of F_q8 o_q8 g_q8 b_q8 (fun _ h => mFn_len h)
  have o_q9 := ok__law_number (P := l.prog) (w := w) (base := base) (cad := fun _ => 0) F_q9 B c__law_draw
  have c__law_number := cal_of F_q9 o_q9 g_q9 b_q9 (fun _ h => mFn_len h)
  have o_q10 := ok__law_numbers (P := l.prog) (w := w) (base := base) (cad := fun _ => 0) F_q10 B c__law_draw c__law_mixed c__law_number c__law_of
  have c__law_numbers := cal_of F_q10 o_q10 g_q10 b_q10 (fun _ h => mFn_len h)
  have o_q11 := ok__law_turned (P := l.prog) (w := w) (base := base) (cad := fun _ => 0) F_q11 B
  have c__law_turned := cal_of F_q11 o_q11 g_q11 b_q11 (fun _ h => mFn_len h)
  have o_q12 := ok__law_count (P := l.prog) (w := w) (base := base) (cad := fun _ => 0) F_q12 B
  have c__law_count := cal_of F_q12 o_q12 g_q12 b_q12 (fun _ h => mFn_len h)
  have o_q13 := ok__law_square_so (P := l.prog) (w := w) (base := base) (cad := fun _ => 0) F_q13 B c__law_count c__law_det c__law_draw c__law_like c__law_turned c_determinant c_independent_rows ck_determinant_0_rows
  have c__law_square_so := cal_of F_q13 o_q13 g_q13 b_q13 (fun _ h => mFn_len h)
  have o_q14 := ok_law (P := l.prog) (w := w) (base := base) (cad := fun _ => 0) F_q14 B c__law_bag c__law_count c__law_draw c__law_like c__law_numbers c__law_of c__law_square_so c__law_turned c_determinant c_independent_rows ck_independent_rows_0_rows
  exact o_q14
theorem walk {l : PySem.W.OpenLaw} {q : Program} {loose : List Str} {XP : (Str → Option Value) → Heap → Prop} {YP : World → Heap → Prop} {d : DefRec} {K : Params → PySem.W.Frag} (hn : l.most = some 63) (hdf : d.params.defaults = [])
    (hm : ∀ ns : List Int, ns.length ≤ 63 → ∃ as, m_law [.d (.ro (ns.map D.int))] = .ok (.d (.bl true)) as)
    (hY : ∀ (w : World) (h : Heap), YP w h → (K w.params).In h)
    (F : ∀ (w : World) (mg : Str → Option Value) (fa : Addr) (h : Heap), (K w.params).In h → h.Ns mainGlobals mg → mg d.name = some (.ref fa) →
      ∃ fd : FuncData, (∀ (s : Shared) (u : Value), BindsTo s fd ⟨[u], []⟩ [("script", u)]) ∧ ∀ base : Heap, (K w.params).In base → base.Ns mainGlobals mg → FnOk l.prog w (K w.params) mg base (L2.CX l.prog w) 10 fa fd ["script"] (spM ⟨K w.params, fun _ => 0⟩ 1 m_law)) :
    PySem.W.WalkO q loose XP YP l.row.toRowW d [] (fun f vs => PySem.call f vs) :=
  L2.walk_of (n := 63) (k := 10) (x := "script") (CX := fun w => L2.CX l.prog w) (sp := fun w => spM ⟨K w.params, fun _ => 0⟩ 1 m_law) hn (by decide) hdf ⟨rfl, by decide, by decide⟩ hY F (fun _ H a ns hl _ hS => law_sp hm H a ns hl hS) fun _ _ _ _ _ z => noCX z
end NS
open PySem PySem.W PyProof.Rows in
set_option maxRecDepth 100000 in
set_option maxHeartbeats 0 in
theorem PySem.Challenge.cw_nearseats_k30_determinants_and_ranks_holds : PySem.Challenge.rw_nearseats_k30_determinants_and_ranks.Holds := by
  w_on; o_law; k_head; (case hw => w_witness2)
  k_fill
  refine NS.walk (l := PySem.Challenge.rw_nearseats_k30_determinants_and_ranks) rfl rfl NS.math (fun w h Y => PySem.W.kIn_of Y) ?F
  case F =>
    intro w mg fa h KX G hmg
    refine' NS.all_mk KX G hmg ?a_q0 ?l_q0 ?c_q0 ?k_q0 ?a_q1 ?l_q1 ?c_q1 ?k_q1 ?a_q2 ?l_q2 ?c_q2 ?k_q2 ?a_q3 ?l_q3 ?c_q3 ?k_q3 ?a_q4 ?l_q4 ?c_q4 ?k_q4 ?a_q5 ?l_q5 ?c_q5 ?k_q5 ?a_q6 ?l_q6 ?c_q6 ?k_q6 ?a_q7 ?l_q7 ?c_q7 ?k_q7 ?a_q8 ?l_q8 ?c_q8 ?k_q8 ?a_q9 ?l_q9 ?c_q9 ?k_q9 ?a_q10 ?l_q10 ?c_q10 ?k_q10 ?a_q11 ?l_q11 ?c_q11 ?k_q11 ?a_q12 ?l_q12 ?c_q12 ?k_q12 ?a_q13 ?l_q13 ?c_q13 ?k_q13 ?a_q14 ?l_q14 ?c_q14 ?k_q14 ?z_all ?z_bool ?z_enumerate ?z_int ?z_isinstance ?z_len ?z_list ?z_range ?z_str ?z_tuple ?z_zip
    (case a_q0 => k_is)
    (case l_q0 => k_is)
    (case c_q0 => k_is)
    (case k_q0 => k_is)
    (case a_q1 => k_is)
    (case l_q1 => k_is)
    (case c_q1 => k_is)
    (case k_q1 => k_is)
    (case a_q2 => k_is)
    (case l_q2 => k_is)
    (case c_q2 => k_is)
    (case k_q2 => k_is)
    (case a_q3 => k_is)
    (case l_q3 => k_is)
    (case c_q3 => k_is)
    (case k_q3 => k_is)
    (case a_q4 => k_is)
    (case l_q4 => k_is)
    (case c_q4 => k_is)
    (case k_q4 => k_is)
    (case a_q5 => k_is)
    (case l_q5 => k_is)
    (case c_q5 => k_is)
    (case k_q5 => k_is)
    (case a_q6 => k_is)
    (case l_q6 => k_is)
    (case c_q6 => k_is)
    (case k_q6 => k_is)
    (case a_q7 => k_is)
    (case l_q7 => k_is)
    (case c_q7 => k_is)
    (case k_q7 => k_is)
    (case a_q8 => k_is)
    (case l_q8 => k_is)
    (case c_q8 => k_is)
    (case k_q8 => k_is)
    (case a_q9 => k_is)
    (case l_q9 => k_is)
    (case c_q9 => k_is)
    (case k_q9 => k_is)
    (case a_q10 => k_is)
    (case l_q10 => k_is)
    (case c_q10 => k_is)
    (case k_q10 => k_is)
    (case a_q11 => k_is)
    (case l_q11 => k_is)
    (case c_q11 => k_is)
    (case k_q11 => k_is)
    (case a_q12 => k_is)
    (case l_q12 => k_is)
    (case c_q12 => k_is)
    (case k_q12 => k_is)
    (case a_q13 => k_is)
    (case l_q13 => k_is)
    (case c_q13 => k_is)
    (case k_q13 => k_is)
    (case a_q14 => k_is)
    (case l_q14 => k_is)
    (case c_q14 => k_is)
    (case k_q14 => k_is)
    (case z_all => k_is)
    (case z_bool => k_is)
    (case z_enumerate => k_is)
    (case z_int => k_is)
    (case z_isinstance => k_is)
    (case z_len => k_is)
    (case z_list => k_is)
    (case z_range => k_is)
    (case z_str => k_is)
    (case z_tuple => k_is)
    (case z_zip => k_is)
