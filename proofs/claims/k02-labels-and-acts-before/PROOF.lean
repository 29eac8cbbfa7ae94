import PyProof.Rows.All
import Wide.All
import OpenK.AllK
import Wide.FinOn
import HandS.Base
import HandS.Call
import HandS.List
import HandS.Comp
import HandS.Dict
import HandS.Iter
import HandS.Ends
import HandS.Words
import HandS.WordsList
import HandS.Exc
import HandS.ExcOwn
import HandS.ExcCtx
import HandS.Deep
import HandS.TupAny
import HandS.TupMul
import HandS.Text
import HandS.Wide
import HandS.Flow
import HandS.Defaults
import HandS.IsInst
import HandS.Codes
import KE.KStateDown
import HandS.Head0
import HandS.Head1
import HandS.Head2
import HandS.HeadEnd
import HandS.HeadHook1
import HandS.HeadHook2
import PySem.Challenge.RW_lapwright_k02_labels_and_acts_before
set_option Elab.async false
set_option linter.all false
set_option maxRecDepth 100000
set_option maxHeartbeats 4000000
/-! LpBase: values by value (tuples are trees), an own memory of numbered objects, results; how they stand in HandS's abstract heap; denotations as readings. -/
namespace Lp
open PySem PySem.Spec PyProof.Rows L2

/-! ### data -/
abbrev St := L2.St
inductive D where
  | non | bl (b : Bool) | int (i : Int) | str (x : Str) | ty (n : String) | glo (x : Str) | ref (a : Nat) | tup (xs : List D) | ro (xs : List D)
inductive MO where
  | lst (xs : List D) | ins (C : Str) (fs : List (Str × D))
abbrev Mem := List MO
inductive R (α : Type) where
  | ok (a : α) (M : Mem) | exc (C : Str) (fs : List (Str × D)) (M : Mem) | bad
def R.bind {α β : Type} : R α → (α → Mem → R β) → R β
  | .ok a M, k => k a M
  | .exc C fs M, _ => .exc C fs M
  | .bad, _ => .bad
abbrev Env := List (Option D)
inductive SR where
  | nx (ρ : Env) (M : Mem) | rt (v : D) (M : Mem) | bk (ρ : Env) (M : Mem) | ct (ρ : Env) (M : Mem) | exc (C : Str) (fs : List (Str × D)) (ρ : Env) (M : Mem) | bad
abbrev Den := Env → Mem → R D
abbrev DenA := Env → Mem → R (List D)
abbrev DenT := Env → Mem → R Bool
abbrev DenS := Env → Mem → SR
/-- the largest size -/
abbrev SZ : Nat := 16777216
theorem sz_eq : SZ = sizeLine := sizeLine_eq.symm

/-! ### how data stand in the abstract heap -/
structure Glb where
  mg : Str → Option Value
  K : PySem.W.Frag
abbrev gX (X : Cx) : Glb := ⟨X.mg, X.K⟩
/-- a list that is only read: it stands so as long as what is locked stays -/
def RoL (K : PySem.W.Frag) (H : Hp) (p : Addr) (vs : List V) : Prop := ∀ H' : Hp, (∀ o u, H p = some (.frz o u) → H' p = some (.frz o u)) → SqL K H' p vs
def RoT (K : PySem.W.Frag) (H : Hp) (p : Addr) (vs : List V) : Prop := ∀ H' : Hp, (∀ xs, H p = some (.tup xs) → H' p = some (.tup xs)) → (∀ o u, H p = some (.frz o u) → H' p = some (.frz o u)) → SqT K H' p vs
theorem RoL.sq {K : PySem.W.Frag} {H : Hp} {p : Addr} {vs : List V} (h : RoL K H p vs) : SqL K H p vs := h H fun _ _ z => z
theorem RoT.sq {K : PySem.W.Frag} {H : Hp} {p : Addr} {vs : List V} (h : RoT K H p vs) : SqT K H p vs := h H (fun _ z => z) fun _ _ z => z
theorem RoT.of {K : PySem.W.Frag} {H : Hp} {p : Addr} {vs : List V} (h : H p = some (.tup vs)) : RoT K H p vs := fun H' k _ => SqT.of (k _ h)
mutual
def DV (G : Glb) (io : List Addr) (H : Hp) : D → V → Prop
  | .non, v => v = .non
  | .bl b, v => v = .bl b
  | .int i, v => v = .int i
  | .str x, v => v = .str x
  | .ty n, v => v = .ty n
  | .glo x, v => ∃ p, G.mg x = some (.ref p) ∧ v = .ref p
  | .ref a, v => ∃ p, io[a]? = some p ∧ v = .ref p
  | .tup ds, v => ∃ p vs, v = .ref p ∧ RoT G.K H p vs ∧ DVs G io H ds vs
  | .ro ds, v => ∃ p vs, v = .ref p ∧ RoL G.K H p vs ∧ DVs G io H ds vs
def DVs (G : Glb) (io : List Addr) (H : Hp) : List D → List V → Prop
  | [], vs => vs = []
  | d :: ds, vs => ∃ v r, vs = v :: r ∧ DV G io H d v ∧ DVs G io H ds r
end
/-- later: more addresses, the tuples as they were -/
structure Ex (io : List Addr) (H : Hp) (io' : List Addr) (H' : Hp) : Prop where
  pre : ∃ t, io' = io ++ t
  tups : ∀ b xs, H b = some (.tup xs) → H' b = some (.tup xs)
  frzs : ∀ b o u, H b = some (.frz o u) → H' b = some (.frz o u)
section
variable {G : Glb} {io io' io2 : List Addr} {H H' H2 : Hp}
theorem Ex.refl : Ex io H io H := ⟨⟨[], by simp⟩, fun _ _ h => h, fun _ _ _ h => h⟩
theorem Ex.trans (a : Ex io H io' H') (b : Ex io' H' io2 H2) : Ex io H io2 H2 := by
  obtain ⟨t, rfl⟩ := a.pre
  obtain ⟨u, rfl⟩ := b.pre
  exact ⟨⟨t ++ u, by rw [List.append_assoc]⟩, fun c xs h => b.tups c xs (a.tups c xs h), fun c o x h => b.frzs c o x (a.frzs c o x h)⟩
theorem Ex.at (e : Ex io H io' H') {a : Nat} {p : Addr} (h : io[a]? = some p) : io'[a]? = some p := by
  obtain ⟨t, rfl⟩ := e.pre
  have hl : a < io.length := (List.getElem?_eq_some_iff.mp h).1
  rw [List.getElem?_append_left hl]
  exact h
mutual
theorem DV.mono (e : Ex io H io' H') : ∀ (d : D) (v : V), DV G io H d v → DV G io' H' d v
  | .non, _, h => h
  | .bl _, _, h => h
  | .int _, _, h => h
  | .str _, _, h => h
  | .ty _, _, h => h
  | .glo _, _, h => h
  | .ref _, _, ⟨p, h, q⟩ => ⟨p, e.at h, q⟩
  | .tup ds, _, ⟨p, vs, h, q, r⟩ => ⟨p, vs, h, fun H2 k l => q H2 (fun xs z => k xs (e.tups _ _ z)) fun o u z => l o u (e.frzs _ _ _ z), DVs.mono e ds vs r⟩
  | .ro ds, _, ⟨p, vs, h, q, r⟩ => ⟨p, vs, h, fun H2 k => q H2 fun o u z => k o u (e.frzs _ _ _ z), DVs.mono e ds vs r⟩
theorem DVs.mono (e : Ex io H io' H') : ∀ (ds : List D) (vs : List V), DVs G io H ds vs → DVs G io' H' ds vs
  | [], _, h => h
  | d :: ds, _, ⟨v, r, h, q, z⟩ => ⟨v, r, h, DV.mono e d v q, DVs.mono e ds r z⟩
end
theorem DVs.length : ∀ {ds : List D} {vs : List V}, DVs G io H ds vs → ds.length = vs.length
  | [], _, h => by cases h; rfl
  | d :: ds, _, ⟨v, r, h, q, z⟩ => by
    cases h
    rw [List.length_cons, List.length_cons, DVs.length z]
theorem DVs.cons {d : D} {v : V} {ds : List D} {vs : List V} (h : DV G io H d v) (t : DVs G io H ds vs) : DVs G io H (d :: ds) (v :: vs) := ⟨v, vs, rfl, h, t⟩
theorem DVs.nil : DVs G io H [] [] := rfl
theorem DVs.get : ∀ {ds : List D} {vs : List V} {i : Nat} {d : D}, DVs G io H ds vs → ds[i]? = some d → ∃ v, vs[i]? = some v ∧ DV G io H d v
  | [], _, i, d, _, e => by simp at e
  | x :: ds, _, 0, d, ⟨v, r, h, q, z⟩, e => by
    cases h
    simp at e
    subst e
    exact ⟨v, rfl, q⟩
  | x :: ds, _, i + 1, d, ⟨v, r, h, q, z⟩, e => by
    cases h
    obtain ⟨w, h1, h2⟩ := DVs.get (i := i) z (by simpa using e)
    exact ⟨w, by simpa using h1, h2⟩
theorem DVs.append : ∀ {ds es : List D} {vs ws : List V}, DVs G io H ds vs → DVs G io H es ws → DVs G io H (ds ++ es) (vs ++ ws)
  | [], _, _, _, h, t => by cases h; exact t
  | d :: ds, _, _, _, ⟨v, r, h, q, z⟩, t => by
    cases h
    exact ⟨v, _, rfl, q, DVs.append z t⟩
theorem DVs.split : ∀ {ds es : List D} {vs : List V}, DVs G io H (ds ++ es) vs → ∃ a b, vs = a ++ b ∧ DVs G io H ds a ∧ DVs G io H es b
  | [], _, vs, h => ⟨[], vs, rfl, DVs.nil, h⟩
  | d :: ds, _, _, ⟨v, r, h, q, z⟩ => by
    obtain ⟨a, b, e, x, y⟩ := DVs.split z
    subst h e
    exact ⟨v :: a, b, rfl, ⟨v, a, rfl, q, x⟩, y⟩
theorem DVs.take : ∀ {ds : List D} {vs : List V} (n : Nat), DVs G io H ds vs → DVs G io H (ds.take n) (vs.take n)
  | _, _, 0, _ => by simp; exact DVs.nil
  | [], _, n + 1, h => by cases h; exact DVs.nil
  | d :: ds, _, n + 1, ⟨v, r, h, q, z⟩ => by
    cases h
    exact ⟨v, _, rfl, q, DVs.take n z⟩
theorem DVs.drop : ∀ {ds : List D} {vs : List V} (n : Nat), DVs G io H ds vs → DVs G io H (ds.drop n) (vs.drop n)
  | ds, vs, 0, h => by simpa using h
  | [], _, n + 1, h => by cases h; exact DVs.nil
  | d :: ds, _, n + 1, ⟨v, r, h, q, z⟩ => by
    cases h
    simpa using DVs.drop n z
theorem DVs.set : ∀ {ds : List D} {vs : List V} {d : D} {v : V} (n : Nat), DVs G io H ds vs → DV G io H d v → DVs G io H (ds.set n d) (vs.set n v)
  | [], _, _, _, n, h, _ => by cases h; exact DVs.nil
  | x :: ds, _, d, v, 0, ⟨u, r, h, q, z⟩, e => by
    cases h
    exact ⟨v, r, rfl, e, z⟩
  | x :: ds, _, d, v, n + 1, ⟨u, r, h, q, z⟩, e => by
    cases h
    exact ⟨u, _, rfl, q, DVs.set n z e⟩
end

/-- an object of the memory at p -/
def OR (G : Glb) (io : List Addr) (H : Hp) (p : Addr) : MO → Prop
  | .lst xs => ∃ vs, H p = some (.lst vs) ∧ DVs G io H xs vs
  | .ins C fs => ∃ q dx gs, G.mg C = some (.ref q) ∧ H p = some (.ins q dx gs) ∧ gs.map (·.1) = fs.map (·.1) ∧ DVs G io H (fs.map (·.2)) (gs.map (·.2))
structure RM (G : Glb) (io : List Addr) (M : Mem) (H : Hp) : Prop where
  len : io.length = M.length
  nd : io.Nodup
  obj : ∀ (a : Nat) (p : Addr) (o : MO), io[a]? = some p → M[a]? = some o → OR G io H p o
structure RE (G : Glb) (io : List Addr) (H : Hp) (ρ : Env) (σ : St) : Prop where
  len : ρ.length = σ.length
  at_ : ∀ (i : Nat) (d : D), ρ[i]? = some (some d) → ∃ v, σ[i]? = some (some v) ∧ DV G io H d v
section
variable {G : Glb} {io io' io2 : List Addr} {H H' H2 : Hp} {M M' : Mem} {ρ : Env} {σ : St} {p : Addr} {a : Nat}
theorem RE.mono (e : Ex io H io' H') (r : RE G io H ρ σ) : RE G io' H' ρ σ := ⟨r.len, fun i d h => by
  obtain ⟨v, h1, h2⟩ := r.at_ i d h
  exact ⟨v, h1, DV.mono e _ _ h2⟩⟩
theorem RE.set (r : RE G io H ρ σ) {i : Nat} {d : D} {v : V} (h : DV G io H d v) : RE G io H (ρ.set i (some d)) (σ.set i (some v)) := by
  refine ⟨by simp [r.len], fun j x e => ?_⟩
  by_cases hj : i = j
  · subst hj
    by_cases hi : i < ρ.length
    · rw [List.getElem?_set_self hi] at e
      cases e
      rw [List.getElem?_set_self (by rw [← r.len]; exact hi)]
      exact ⟨v, rfl, h⟩
    · rw [List.getElem?_eq_none (by simpa using hi)] at e
      cases e
  · rw [List.getElem?_set_ne hj] at e
    rw [List.getElem?_set_ne hj]
    exact r.at_ j x e
/-- forgetting slots -/
theorem RE.weak {ρ' : Env} (r : RE G io H ρ σ) (hl : ρ'.length = ρ.length) (w : ∀ (i : Nat) (d : D), ρ'[i]? = some (some d) → ρ[i]? = some (some d)) : RE G io H ρ' σ :=
  ⟨hl.trans r.len, fun i d e => r.at_ i d (w i d e)⟩
/-- the heap changes, tuples and the objects of the memory stand -/
theorem OR.mono_of {o : MO} (e : Ex io H io' H') (h : OR G io H p o) (k : ∀ u, H p = some u → H' p = some u) : OR G io' H' p o := by
  cases o with
  | lst xs =>
    obtain ⟨vs, h1, h2⟩ := h
    exact ⟨vs, k _ h1, DVs.mono e _ _ h2⟩
  | ins C fs =>
    obtain ⟨q, dx, gs, h0, h1, h2, h3⟩ := h
    exact ⟨q, dx, gs, h0, k _ h1, h2, DVs.mono e _ _ h3⟩
/-- what may be changed -/
def Mt (u : HO) : Prop := (∀ xs, u ≠ .tup xs) ∧ ∀ o x, u ≠ .frz o x
theorem OR.there {o : MO} (h : OR G io H p o) : ∃ u, H p = some u ∧ Mt u := by
  cases o with
  | lst xs =>
    obtain ⟨vs, h1, h2⟩ := h
    exact ⟨_, h1, fun _ z => (nomatch z), fun _ _ z => nomatch z⟩
  | ins C fs =>
    obtain ⟨q, dx, gs, h0, h1, h2, h3⟩ := h
    exact ⟨_, h1, fun _ z => (nomatch z), fun _ _ z => nomatch z⟩
theorem RM.at_ (r : RM G io M H) {o : MO} (h : M[a]? = some o) : ∃ p, io[a]? = some p ∧ OR G io H p o := by
  have hl : a < io.length := by rw [r.len]; exact (List.getElem?_eq_some_iff.mp h).1
  exact ⟨_, List.getElem?_eq_getElem hl, r.obj a _ o (List.getElem?_eq_getElem hl) h⟩
/-- every object of the memory is tracked -/
theorem RM.trk (r : RM G io M H) (h : io[a]? = some p) : ∃ u, H p = some u ∧ Mt u := by
  have hl : a < M.length := by rw [← r.len]; exact (List.getElem?_eq_some_iff.mp h).1
  exact (r.obj a p _ h (List.getElem?_eq_getElem hl)).there
/-- a new address is none of the memory's -/
theorem RM.new_ne (r : RM G io M H) (hp : H p = none) : p ∉ io := fun hm => by
  obtain ⟨i, hi⟩ := List.getElem?_of_mem hm
  obtain ⟨u, hu, _⟩ := r.trk hi
  rw [hp] at hu
  cases hu
theorem ex_new {o : HO} (hp : H p = none) : Ex io H (io ++ [p]) (upd H p o) := ⟨⟨[p], rfl⟩, fun b xs h => by
  rw [upd_ne (ne_of_none h hp)]
  exact h, fun b o x h => by
  rw [upd_ne (ne_of_none h hp)]
  exact h⟩
theorem ex_tup {o : HO} (hp : H p = none) : Ex io H io (upd H p o) := ⟨⟨[], by simp⟩, fun b xs h => by
  rw [upd_ne (ne_of_none h hp)]
  exact h, fun b o x h => by
  rw [upd_ne (ne_of_none h hp)]
  exact h⟩
/-- a tuple is laid -/
theorem RM.tup (r : RM G io M H) {o : HO} (hp : H p = none) : RM G io M (upd H p o) := ⟨r.len, r.nd, fun b q o' h1 h2 => by
  refine (r.obj b q o' h1 h2).mono_of (ex_tup hp) fun u hu => ?_
  rw [upd_ne (ne_of_none hu hp)]
  exact hu⟩
/-- an object is laid -/
theorem RM.new (r : RM G io M H) {o : MO} {u : HO} (hp : H p = none) (h : OR G (io ++ [p]) (upd H p u) p o) : RM G (io ++ [p]) (M ++ [o]) (upd H p u) := by
  refine ⟨by simp [r.len], ?_, fun b q o' h1 h2 => ?_⟩
  · rw [List.nodup_append]
    exact ⟨r.nd, by simp, fun x hx y hy e => by
      simp at hy
      subst hy e
      exact r.new_ne hp hx⟩
  · by_cases hb : b < io.length
    · rw [List.getElem?_append_left hb] at h1
      rw [List.getElem?_append_left (by rw [← r.len]; exact hb)] at h2
      refine (r.obj b q o' h1 h2).mono_of (ex_new hp) fun v hv => ?_
      rw [upd_ne (ne_of_none hv hp)]
      exact hv
    · have hl : b < (io ++ [p]).length := (List.getElem?_eq_some_iff.mp h1).1
      have e : b = io.length := by
        rw [List.length_append, List.length_singleton] at hl
        omega
      subst e
      rw [List.getElem?_concat_length] at h1
      rw [r.len, List.getElem?_concat_length] at h2
      cases h1
      cases h2
      exact h
theorem ex_set {u o : HO} (hu : H p = some u) (nt : Mt u) : Ex io H io (upd H p o) := ⟨⟨[], by simp⟩, fun b xs h => by
  rw [upd_ne fun z => ?_]
  · exact h
  · subst z
    rw [hu] at h
    exact nt.1 xs (Option.some.inj h), fun b o x h => by
  rw [upd_ne fun z => ?_]
  · exact h
  · subst z
    rw [hu] at h
    exact nt.2 o x (Option.some.inj h)⟩
theorem mt_lst {xs : List V} : Mt (.lst xs) := ⟨fun _ z => (nomatch z), fun _ _ z => nomatch z⟩
/-- an object is changed -/
theorem RM.set (r : RM G io M H) {o : MO} {u : HO} (hp : io[a]? = some p) (h : OR G io (upd H p u) p o) : RM G io (M.set a o) (upd H p u) := by
  obtain ⟨x, hx, nt⟩ := r.trk hp
  refine ⟨by simp [r.len], r.nd, fun b q o' h1 h2 => ?_⟩
  by_cases hb : a = b
  · subst hb
    rw [hp] at h1
    cases h1
    have hl : a < M.length := by rw [← r.len]; exact (List.getElem?_eq_some_iff.mp hp).1
    rw [List.getElem?_set_self hl] at h2
    cases h2
    exact h
  · rw [List.getElem?_set_ne hb] at h2
    have ne : q ≠ p := fun z => by
      subst z
      obtain ⟨ha, ea⟩ := List.getElem?_eq_some_iff.mp hp
      obtain ⟨hb', eb⟩ := List.getElem?_eq_some_iff.mp h1
      exact hb ((List.getElem_inj r.nd).mp (ea.trans eb.symm))
    refine (r.obj b q o' h1 h2).mono_of (ex_set hx nt) fun v hv => ?_
    rw [upd_ne ne]
    exact hv
end

/-! ### exceptions -/
/-- an exception: its class's name, its fields -/
def EV (G : Glb) (io : List Addr) (H : Hp) (C : Str) (fs : List (Str × D)) (c : Value) (dd : Option Addr) : Prop :=
  ∃ q d gs, G.mg C = some (.ref q) ∧ c = .ref q ∧ dd = some d ∧ H d = some (.xd gs) ∧ gs.map (·.1) = fs.map (·.1) ∧ DVs G io H (fs.map (·.2)) (gs.map (·.2))

/-! ### denotations as readings -/
/-- a result, and what is wanted behind it -/
def Go {α : Type} (G : Glb) (W : Value → Option Addr → Hp → Prop) (io : List Addr) (H : Hp) (r : R α) (P : α → Mem → List Addr → Hp → Prop) : Prop :=
  match r with
  | .ok a M' => ∀ io' H', Ex io H io' H' → RM G io' M' H' → P a M' io' H'
  | .exc C fs M' => ∀ io' H' c dd, Ex io H io' H' → RM G io' M' H' → EV G io' H' C fs c dd → W c dd H'
  | .bad => False
section
variable {α β : Type} {G : Glb} {W : Value → Option Addr → Hp → Prop} {io io' : List Addr} {H H' : Hp} {M : Mem}
theorem Go.later {r : R α} {P : α → Mem → List Addr → Hp → Prop} (e : Ex io H io' H') (h : Go G W io H r P) : Go G W io' H' r P := by
  cases r with
  | ok a M => exact fun i2 H2 e2 r2 => h i2 H2 (e.trans e2) r2
  | exc C fs M => exact fun i2 H2 c d e2 r2 x => h i2 H2 c d (e.trans e2) r2 x
  | bad => exact h
theorem Go.imp {r : R α} {P P' : α → Mem → List Addr → Hp → Prop} (h : Go G W io H r P) (hi : ∀ a M i H', Ex io H i H' → RM G i M H' → P a M i H' → P' a M i H') : Go G W io H r P' := by
  cases r with
  | ok a M => exact fun i2 H2 e2 r2 => hi _ _ _ _ e2 r2 (h i2 H2 e2 r2)
  | exc C fs M => exact h
  | bad => exact h
theorem Go.bind {r : R α} {k : α → Mem → R β} {P : β → Mem → List Addr → Hp → Prop} (h : Go G W io H (r.bind k) P) :
    Go G W io H r fun a M' i H' => Go G W i H' (k a M') P := by
  cases r with
  | ok a M => exact fun i2 H2 e2 r2 => Go.later e2 h
  | exc C fs M => exact h
  | bad => exact h
theorem Go.ok {a : α} {P : α → Mem → List Addr → Hp → Prop} (h : Go G W io H (.ok a M) P) (r : RM G io M H) : P a M io H := h io H Ex.refl r
end
/-- the expression's reading -/
def tE (G : Glb) (W : WX) (d : Den) : TE := fun σ H Q => ∃ io M ρ, RM G io M H ∧ RE G io H ρ σ ∧ Go G (fun c dd H' => W c dd σ H') io H (d ρ M) fun x M' io' H' => ∀ v, DV G io' H' x v → Q v H'
def tT (G : Glb) (W : WX) (d : DenT) : TT := fun σ H Q => ∃ io M ρ, RM G io M H ∧ RE G io H ρ σ ∧ Go G (fun c dd H' => W c dd σ H') io H (d ρ M) fun x M' io' H' => Q x H'
def tA (G : Glb) (W : WX) (d : DenA) : TA := fun σ H Q => ∃ io M ρ, RM G io M H ∧ RE G io H ρ σ ∧ Go G (fun c dd H' => W c dd σ H') io H (d ρ M) fun x M' io' H' => ∀ vs, DVs G io' H' x vs → Q vs H'
def GoS (G : Glb) (W : WX) (io : List Addr) (H : Hp) (r : SR) (Dn : Ends) : Prop :=
  match r with
  | .nx ρ' M' => ∀ io' H' σ', Ex io H io' H' → RM G io' M' H' → RE G io' H' ρ' σ' → Dn.nx σ' H'
  | .rt x M' => ∀ io' H' v, Ex io H io' H' → RM G io' M' H' → DV G io' H' x v → Dn.rt v H'
  | .bk ρ' M' => ∀ io' H' σ', Ex io H io' H' → RM G io' M' H' → RE G io' H' ρ' σ' → Dn.bk σ' H'
  | .ct ρ' M' => ∀ io' H' σ', Ex io H io' H' → RM G io' M' H' → RE G io' H' ρ' σ' → Dn.ct σ' H'
  | .exc C fs ρ' M' => ∀ io' H' σ' c dd, Ex io H io' H' → RM G io' M' H' → RE G io' H' ρ' σ' → EV G io' H' C fs c dd → W c dd σ' H'
  | .bad => False
def tS (G : Glb) (W : WX) (d : DenS) : TS := fun Dn σ H => ∃ io M ρ, RM G io M H ∧ RE G io H ρ σ ∧ GoS G W io H (d ρ M) Dn
theorem GoS.later {G : Glb} {W : WX} {io io' : List Addr} {H H' : Hp} {r : SR} {Dn : Ends} (e : Ex io H io' H') (h : GoS G W io H r Dn) : GoS G W io' H' r Dn := by
  cases r with
  | nx ρ M => exact fun i2 H2 s e2 => h i2 H2 s (e.trans e2)
  | rt x M => exact fun i2 H2 v e2 => h i2 H2 v (e.trans e2)
  | bk ρ M => exact fun i2 H2 s e2 => h i2 H2 s (e.trans e2)
  | ct ρ M => exact fun i2 H2 s e2 => h i2 H2 s (e.trans e2)
  | exc C fs ρ M => exact fun i2 H2 s c d e2 => h i2 H2 s c d (e.trans e2)
  | bad => exact h
/-! ### judgements -/
abbrev DE (X : Cx) (W : WX) (d : Den) (e : Expr) : Prop := PE X e (tE (gX X) W d)
abbrev DT (X : Cx) (W : WX) (d : DenT) (e : Expr) : Prop := PT X e (tT (gX X) W d)
abbrev DA (X : Cx) (W : WX) (d : DenA) (es : List Expr) : Prop := PA X es (tA (gX X) W d)
abbrev DS (X : Cx) (W : WX) (d : DenS) (st : Stmt) : Prop := PS X st (tS (gX X) W d)
abbrev DSs (X : Cx) (W : WX) (d : DenS) (st : List Stmt) : Prop := PSs X st (tS (gX X) W d)
theorem PE.imp {X : Cx} {e : Expr} {t t' : TE} (h : PE X e t) (hi : ∀ σ H Q, t' σ H Q → t σ H Q) : PE X e t' := ⟨fun pins s σ H Q I q => h.run pins s σ H Q I (hi _ _ _ q)⟩
theorem PT.imp {X : Cx} {e : Expr} {t t' : TT} (h : PT X e t) (hi : ∀ σ H Q, t' σ H Q → t σ H Q) : PT X e t' := ⟨fun pins s σ H Q I q => h.run pins s σ H Q I (hi _ _ _ q)⟩
theorem PA.imp {X : Cx} {e : List Expr} {t t' : TA} (h : PA X e t) (hi : ∀ σ H Q, t' σ H Q → t σ H Q) : PA X e t' := ⟨fun p pins s σ H Q I q => h.run p pins s σ H Q I (hi _ _ _ q)⟩
theorem PS.imp {X : Cx} {e : Stmt} {t t' : TS} (h : PS X e t) (hi : ∀ D σ H, t' D σ H → t D σ H) : PS X e t' := ⟨fun pins s σ H D I q => h.run pins s σ H D I (hi _ _ _ q)⟩
theorem PSs.imp {X : Cx} {e : List Stmt} {t t' : TS} (h : PSs X e t) (hi : ∀ D σ H, t' D σ H → t D σ H) : PSs X e t' := ⟨fun pins s σ H D I q => h.run pins s σ H D I (hi _ _ _ q)⟩
end Lp
/-! LpExpr: expressions: names, constants, operators, comparisons, tests, displays, subscripts, slices. -/
namespace Lp
open PySem PySem.Spec PyProof.Rows L2
section
variable {X : Cx} {W : WX}

/-! ### names, constants -/
def dVar (i : Nat) : Den := fun ρ M => match ρ[i]? with
  | some (some d) => .ok d M
  | _ => .bad
theorem de_var (i : Nat) {x : Str} {pos : Pos} (hN : X.N[i]? = some x := by rfl) (hv : Vis X.env.scope x := by first | exact Or.inl rfl | exact Or.inr (Or.inl rfl) | exact Or.inr (Or.inr rfl)) (hd : (x == ("__debug__" : Str)) = false := by decide)
    (hcd : (x == ("__classdict__" : Str)) = false := by decide) : DE X W (dVar i) (.Name x pos) :=
  PE.imp (pe_var hN hv hd hcd) fun σ H Q ⟨io, M, ρ, hR, hE, h⟩ => by
    unfold dVar at h
    cases e : ρ[i]? with
    | none => rw [e] at h; exact h.elim
    | some o =>
      cases o with
      | none => rw [e] at h; exact h.elim
      | some d =>
        rw [e] at h
        obtain ⟨v, h1, h2⟩ := hE.at_ i d e
        exact ⟨v, h1, Go.ok h hR v h2⟩
def dC (d : D) : Den := fun _ M => .ok d M
/-- a plain constant's value -/
def cv : D → Option V
  | .non => some .non
  | .bl b => some (.bl b)
  | .int i => some (.int i)
  | .str x => some (.str x)
  | .ty n => some (.ty n)
  | _ => none
theorem cv_dv {G : Glb} {io : List Addr} {H : Hp} {d : D} {v : V} (h : cv d = some v) : DV G io H d v := by
  cases d <;> simp [cv] at h <;> first | exact h.symm | (subst h; rfl)
theorem tC_imp {d : D} {v : V} (h : cv d = some v) : ∀ σ H Q, tE (gX X) W (dC d) σ H Q → tC v σ H Q := fun σ H Q ⟨io, M, ρ, hR, hE, g⟩ => Go.ok g hR v (cv_dv h)
theorem de_int {i j pos} : DE X W (dC (.int i)) (.Constant (.int i) j pos) := PE.imp pe_int (tC_imp rfl)
theorem de_bl {i j pos} : DE X W (dC (.bl i)) (.Constant (.bool i) j pos) := PE.imp pe_bl (tC_imp rfl)
theorem de_str {i j pos} : DE X W (dC (.str i)) (.Constant (.str i) j pos) := PE.imp pe_str (tC_imp rfl)
theorem de_non {j pos} : DE X W (dC .non) (.Constant .none j pos) := PE.imp pe_non (tC_imp rfl)
/-- a module's constant -/
theorem de_glob {x : Str} {d : D} {v : V} {pos : Pos} (hm : ∃ u, X.mg x = some u ∧ RelV v u) (hc : cv d = some v := by rfl) (hg : Gl X x := by rfl) (hd : (x == ("__debug__" : Str)) = false := by decide) : DE X W (dC d) (.Name x pos) := by
  obtain ⟨u, h1, h2⟩ := hm
  exact PE.imp (pe_glob hg h1 h2 hd) (tC_imp hc)
/-- a module's def or class as a value -/
theorem de_glo {x : Str} {p : Addr} {pos : Pos} (hm : X.mg x = some (.ref p)) (hg : Gl X x := by rfl) (hd : (x == ("__debug__" : Str)) = false := by decide) : DE X W (dC (.glo x)) (.Name x pos) :=
  PE.imp (pe_glob (v := .ref p) hg hm rfl hd) fun σ H Q ⟨io, M, ρ, hR, hE, g⟩ => Go.ok g hR (.ref p) ⟨p, hm, rfl⟩
/-- a built-in type as a value -/
theorem de_ty {x : Str} {n : String} {pos : Pos} (hm : X.mg x = none) (hv : bootBuiltins x = some (.type n) := by decide +kernel) (hg : Gl X x := by rfl) (hn : x ≠ "__name__" := by decide) (hd : (x == ("__debug__" : Str)) = false := by decide) : DE X W (dC (.ty n)) (.Name x pos) :=
  PE.imp (pe_bltn (v := .ty n) hg hm hv rfl hn hd) (tC_imp rfl)

/-! ### operators by values -/
abbrev Op := Option (D × Mem)
def lift : Op → R D
  | some (d, M) => .ok d M
  | none => .bad
def Gv (G : Glb) (io : List Addr) (H : Hp) (o : Op) (Q : VK) : Prop := ∃ z M', o = some (z, M') ∧ ∀ io' H' u, Ex io H io' H' → RM G io' M' H' → DV G io' H' z u → Q u H'
theorem Go.gv {G : Glb} {W : Value → Option Addr → Hp → Prop} {io : List Addr} {H : Hp} {o : Op} {Q : VK} (h : Go G W io H (lift o) fun x M' io' H' => ∀ v, DV G io' H' x v → Q v H') : Gv G io H o Q := by
  cases o with
  | none => exact h.elim
  | some p =>
    obtain ⟨d, M⟩ := p
    exact ⟨d, M, rfl, fun io' H' u e r x => h io' H' e r u x⟩
theorem Gv.same {G : Glb} {io : List Addr} {H : Hp} {z : D} {M : Mem} {Q : VK} (h : Gv G io H (some (z, M)) Q) (r : RM G io M H) {u : V} (x : DV G io H z u) : Q u H := by
  obtain ⟨z', M', e, k⟩ := h
  cases e
  exact k io H u Ex.refl r x
/-- the value is a new object -/
theorem Gv.new {G : Glb} {io : List Addr} {H : Hp} {o : MO} {u : HO} {M : Mem} {Q : VK} {p : Addr} (h : Gv G io H (some (.ref M.length, M ++ [o])) Q) (r : RM G io M H) (hp : H p = none) (x : OR G (io ++ [p]) (upd H p u) p o) : Q (.ref p) (upd H p u) := by
  obtain ⟨z', M', e, k⟩ := h
  cases e
  exact k _ _ _ (ex_new hp) (r.new hp x) ⟨p, by rw [← r.len]; exact List.getElem?_concat_length, rfl⟩
/-- the value is a new tuple -/
theorem Gv.tup {G : Glb} {io : List Addr} {H : Hp} {ds : List D} {vs : List V} {M : Mem} {Q : VK} {p : Addr} (h : Gv G io H (some (.tup ds, M)) Q) (r : RM G io M H) (hp : H p = none) (x : DVs G io H ds vs) : Q (.ref p) (upd H p (.tup vs)) := by
  obtain ⟨z', M', e, k⟩ := h
  cases e
  exact k _ _ _ (ex_tup hp) (r.tup hp) ⟨p, vs, rfl, RoT.of upd_same, DVs.mono (ex_tup hp) _ _ x⟩
def OpD (X : Cx) (r : R2) (f : D → D → Mem → Op) : Prop := ∀ (io : List Addr) (M : Mem) (H : Hp) (x y : D) (v w : V) (Q : VK), RM (gX X) io M H → DV (gX X) io H x v → DV (gX X) io H y w → Gv (gX X) io H (f x y M) Q → r v w H Q
def dBin (f : D → D → Mem → Op) (da db : Den) : Den := fun ρ M => (da ρ M).bind fun x M1 => (db ρ M1).bind fun y M2 => lift (f x y M2)
theorem tOp_imp {r : R2} {f : D → D → Mem → Op} {da db : Den} (ho : OpD X r f) : ∀ σ H Q, tE (gX X) W (dBin f da db) σ H Q → tOp r (tE (gX X) W da) (tE (gX X) W db) σ H Q := by
  intro σ H Q ⟨io, M, ρ, hR, hE, g⟩
  exact ⟨io, M, ρ, hR, hE, g.bind.imp fun x M1 io1 H1 e1 r1 g1 v hv => ⟨io1, M1, ρ, r1, hE.mono e1, g1.bind.imp fun y M2 io2 H2 e2 r2 g2 w hw => ho io2 M2 H2 x y v w Q r2 (DV.mono e2 _ _ hv) hw g2.gv⟩⟩
theorem de_op {op : Operator} {r : R2} {f : D → D → Mem → Op} {da db : Den} {a b : Expr} {pos : Pos} (h : OpR X (binaryOp op) r) (ho : OpD X r f) (ha : DE X W da a) (hb : DE X W db b) : DE X W (dBin f da db) (.BinOp a op b pos) :=
  PE.imp (pe_op h ha hb) (tOp_imp ho)
/-! ### whole numbers -/
def fI (g : Int → Int → D) : D → D → Mem → Op
  | .int i, .int j, M => some (g i j, M)
  | _, _, _ => none
def fIc (c : Int → Int → Bool) (g : Int → Int → D) : D → D → Mem → Op
  | .int i, .int j, M => if c i j = true then some (g i j, M) else none
  | _, _, _ => none
theorem opd_I0 {g : Int → Int → D} {k : Int → Int → V} (hk : ∀ i j, cv (g i j) = some (k i j)) : OpD X (rI0 k) (fI g) := by
  intro io M H x y v w Q hR hx hy q
  unfold fI at q
  split at q
  · cases hx
    cases hy
    exact ⟨_, _, rfl, rfl, q.same hR (cv_dv (hk _ _))⟩
  · obtain ⟨_, _, z, _⟩ := q
    cases z
theorem opd_Ic {C : Int → Int → Prop} {c : Int → Int → Bool} {g : Int → Int → D} {k : Int → Int → V} (hc : ∀ i j, c i j = true → C i j) (hk : ∀ i j, cv (g i j) = some (k i j)) : OpD X (rI C k) (fIc c g) := by
  intro io M H x y v w Q hR hx hy q
  unfold fIc at q
  split at q
  · split at q
    · rename_i h
      cases hx
      cases hy
      exact ⟨_, _, rfl, rfl, hc _ _ h, q.same hR (cv_dv (hk _ _))⟩
    · obtain ⟨_, _, z, _⟩ := q
      cases z
  · obtain ⟨_, _, z, _⟩ := q
    cases z
abbrev P64 : Int := 18446744073709551616
def cMul (i j : Int) : Bool := decide ((-P64 < i ∧ i < P64) ∨ (-P64 < j ∧ j < P64))
def cDiv (i j : Int) : Bool := decide (0 < j ∧ j < 1073741824)
def cMod (_ j : Int) : Bool := decide (0 < j)
def cPow (i j : Int) : Bool := decide (0 ≤ j ∧ j ≤ 1000000 ∧ i.natAbs < 18446744073709551616)
def fSub := fI fun i j => .int (i - j)
def fMul := fIc cMul fun i j => .int (i * j)
def fDiv := fIc cDiv fun i j => .int (i / j)
def fMod := fIc cMod fun i j => .int (i % j)
def fPow := fIc cPow fun i j => .int (i ^ j.toNat)
theorem opd_sub : OpD X (rI0 fun i j => .int (i - j)) fSub := opd_I0 fun _ _ => rfl
theorem opd_mul : OpD X (rI CMul fun i j => .int (i * j)) fMul := opd_Ic (fun i j h => by
  have h := of_decide_eq_true h
  exact h) fun _ _ => rfl
theorem opd_div : OpD X (rI CDiv fun i j => .int (i / j)) fDiv := opd_Ic (fun i j h => (of_decide_eq_true h : 0 < j ∧ j < 1073741824)) fun _ _ => rfl
theorem opd_mod : OpD X (rI (fun _ j => 0 < j) fun i j => .int (i % j)) fMod := opd_Ic (fun i j h => (of_decide_eq_true h : 0 < j)) fun _ _ => rfl
theorem opd_pow : OpD X (rI CPow fun i j => .int (i ^ j.toNat)) fPow := opd_Ic (fun i j h => (of_decide_eq_true h : 0 ≤ j ∧ j ≤ 1000000 ∧ i.natAbs < 18446744073709551616)) fun _ _ => rfl
/-! ### sums of texts, tuples, lists -/
def fAddS : D → D → Mem → Op
  | .str x, .str y, M => if x.length + y.length ≤ SZ then some (.str (x ++ y), M) else none
  | _, _, _ => none
def fAddT : D → D → Mem → Op
  | .tup xs, .tup ys, M => if xs.length + ys.length ≤ SZ then some (.tup (xs ++ ys), M) else none
  | _, _, _ => none
def fAddL : D → D → Mem → Op
  | .ref a, .ref b, M => match M[a]?, M[b]? with
    | some (.lst xs), some (.lst ys) => if xs.length + ys.length ≤ SZ then some (.ref M.length, M ++ [.lst (xs ++ ys)]) else none
    | _, _ => none
  | _, _, _ => none
def fAddB : D → D → Mem → Op
  | .int i, .bl k, M => some (.int (i + b2i k), M)
  | _, _, _ => none
theorem Gv.none_ {G : Glb} {io : List Addr} {H : Hp} {Q : VK} (h : Gv G io H none Q) : False := by
  obtain ⟨_, _, z, _⟩ := h
  cases z
theorem opd_addS : OpD X (fun x y H Q => ∃ i j, x = .str i ∧ y = .str j ∧ i.length + j.length ≤ sizeLine ∧ Q (.str (i ++ j)) H) fAddS := by
  intro io M H x y v w Q hR hx hy q
  unfold fAddS at q
  split at q
  · split at q
    · rename_i h
      cases hx
      cases hy
      exact ⟨_, _, rfl, rfl, by rw [← sz_eq]; exact h, q.same hR rfl⟩
    · exact q.none_.elim
  · exact q.none_.elim
theorem opd_addT : OpD X (rCatA X.K) fAddT := by
  intro io M H x y v w Q hR hx hy q
  unfold fAddT at q
  split at q
  · split at q
    · rename_i ds es h
      obtain ⟨p, vs, rfl, hp, rp⟩ := hx
      obtain ⟨p', ws, rfl, hp', rp'⟩ := hy
      have l1 := rp.length
      have l2 := rp'.length
      refine ⟨p, p', vs, ws, rfl, rfl, hp.sq, hp'.sq, by rw [← sz_eq, ← l1, ← l2]; exact h, fun e => ?_, fun e1 e2 => ?_, fun e1 e2 u hu => q.tup hR hu (DVs.append rp rp')⟩
      · subst e
        have : ds = [] := List.eq_nil_of_length_eq_zero l1
        subst this
        exact q.same hR ⟨p', ws, rfl, hp', rp'⟩
      · subst e2
        have : es = [] := List.eq_nil_of_length_eq_zero l2
        subst this
        rw [List.append_nil] at q
        exact q.same hR ⟨p, vs, rfl, hp, rp⟩
    · exact q.none_.elim
  · exact q.none_.elim
theorem opd_addL : OpD X rCat fAddL := by
  intro io M H x y v w Q hR hx hy q
  unfold fAddL at q
  split at q
  · split at q
    · split at q
      · rename_i ha hb h
        obtain ⟨p, hp, rfl⟩ := hx
        obtain ⟨p', hp', rfl⟩ := hy
        obtain ⟨vs, h1, r1⟩ := hR.obj _ _ _ hp ha
        obtain ⟨ws, h2, r2⟩ := hR.obj _ _ _ hp' hb
        refine ⟨p, p', vs, ws, rfl, rfl, h1, h2, by rw [← sz_eq, ← r1.length, ← r2.length]; exact h, fun u hu => q.new hR hu ⟨_, upd_same, DVs.mono (ex_new hu) _ _ (DVs.append r1 r2)⟩⟩
      · exact q.none_.elim
    · exact q.none_.elim
  · exact q.none_.elim
theorem opd_addB : OpD X (fun x y H Q => ∃ i k, x = .int i ∧ y = .bl k ∧ Q (.int (i + b2i k)) H) fAddB := by
  intro io M H x y v w Q hR hx hy q
  unfold fAddB at q
  split at q
  · cases hx
    cases hy
    exact ⟨_, _, rfl, rfl, q.same hR rfl⟩
  · exact q.none_.elim
def fAddI := fI fun i j => .int (i + j)
theorem opd_addI : OpD X (rI0 fun i j => .int (i + j)) fAddI := opd_I0 fun _ _ => rfl
def fAdd (x y : D) (M : Mem) : Op := match x, y with
  | .int _, .int _ => fAddI x y M
  | .int _, .bl _ => fAddB x y M
  | .str _, .str _ => fAddS x y M
  | .tup _, .tup _ => fAddT x y M
  | _, _ => fAddL x y M
theorem OpD.or2 {r r' : R2} {f g h : D → D → Mem → Op} (a : OpD X r f) (b : OpD X r' g) (e : ∀ x y M, h x y M = f x y M ∨ h x y M = g x y M) : OpD X (fun x y H Q => r x y H Q ∨ r' x y H Q) h := by
  intro io M H x y v w Q hR hx hy q
  rcases e x y M with e | e
  · exact .inl (a io M H x y v w Q hR hx hy (by rw [← e]; exact q))
  · exact .inr (b io M H x y v w Q hR hx hy (by rw [← e]; exact q))
theorem opd_add : OpD X (fun x y H Q => (∃ i j, x = .str i ∧ y = .str j ∧ i.length + j.length ≤ sizeLine ∧ Q (.str (i ++ j)) H) ∨ rCatA X.K x y H Q ∨ rCat x y H Q ∨ (∃ i k, x = .int i ∧ y = .bl k ∧ Q (.int (i + b2i k)) H) ∨ rI0 (fun i j => .int (i + j)) x y H Q) fAdd := by
  intro io M H x y v w Q hR hx hy q
  unfold fAdd at q
  split at q
  · exact .inr (.inr (.inr (.inr (opd_addI io M H _ _ v w Q hR hx hy q))))
  · exact .inr (.inr (.inr (.inl (opd_addB io M H _ _ v w Q hR hx hy q))))
  · exact .inl (opd_addS io M H _ _ v w Q hR hx hy q)
  · exact .inr (.inl (opd_addT io M H _ _ v w Q hR hx hy q))
  · exact .inr (.inr (.inl (opd_addL io M H _ _ v w Q hR hx hy q)))
theorem de_add {da db : Den} {a b : Expr} {pos : Pos} (ha : DE X W da a) (hb : DE X W db b) : DE X W (dBin fAdd da db) (.BinOp a .Add b pos) :=
  de_op (op_add_str.or (op_catA.or (op_cat.or (op_add_ib.or op_add)))) opd_add ha hb
theorem de_sub {da db : Den} {a b : Expr} {pos : Pos} (ha : DE X W da a) (hb : DE X W db b) : DE X W (dBin fSub da db) (.BinOp a .Sub b pos) := de_op op_sub opd_sub ha hb
theorem de_div {da db : Den} {a b : Expr} {pos : Pos} (ha : DE X W da a) (hb : DE X W db b) : DE X W (dBin fDiv da db) (.BinOp a .FloorDiv b pos) := de_op op_fdiv opd_div ha hb
theorem de_mod {da db : Den} {a b : Expr} {pos : Pos} (ha : DE X W da a) (hb : DE X W db b) : DE X W (dBin fMod da db) (.BinOp a .Mod b pos) := de_op op_mod opd_mod ha hb
theorem de_pow {da db : Den} {a b : Expr} {pos : Pos} (ha : DE X W da a) (hb : DE X W db b) : DE X W (dBin fPow da db) (.BinOp a .Pow b pos) := de_op op_pow opd_pow ha hb
/-! ### products: ints, a list's copies -/
def fRep : D → D → Mem → Op
  | .ref a, .int k, M => match M[a]? with
    | some (.lst xs) => if -9223372036854775808 ≤ k ∧ k < 9223372036854775808 ∧ xs.length * k.toNat ≤ SZ then some (.ref M.length, M ++ [.lst (List.replicate k.toNat xs).flatten]) else none
    | _ => none
  | _, _, _ => none
theorem DVs.rep {G : Glb} {io : List Addr} {H : Hp} {ds : List D} {vs : List V} (r : DVs G io H ds vs) : ∀ n : Nat, DVs G io H (List.replicate n ds).flatten (List.replicate n vs).flatten
  | 0 => DVs.nil
  | n + 1 => by
    rw [List.replicate_succ, List.replicate_succ, List.flatten_cons, List.flatten_cons]
    exact DVs.append r (DVs.rep r n)
theorem opd_rep : OpD X rRep fRep := by
  intro io M H x y v w Q hR hx hy q
  unfold fRep at q
  split at q
  · split at q
    · split at q
      · rename_i ha h
        obtain ⟨p, hp, rfl⟩ := hx
        cases hy
        obtain ⟨vs, h1, r1⟩ := hR.obj _ _ _ hp ha
        obtain ⟨k1, k2, k3⟩ := h
        refine ⟨p, _, vs, rfl, rfl, h1, by omega, by omega, by rw [← sz_eq, ← r1.length]; exact k3, fun u hu => q.new hR hu ⟨_, upd_same, DVs.mono (ex_new hu) _ _ (DVs.rep r1 _)⟩⟩
      · exact q.none_.elim
    · exact q.none_.elim
  · exact q.none_.elim
def fMulA (x y : D) (M : Mem) : Op := match x with
  | .int _ => fMul x y M
  | _ => fRep x y M
theorem opd_mulA : OpD X (fun x y H Q => rRep x y H Q ∨ rI CMul (fun i j => .int (i * j)) x y H Q) fMulA := by
  intro io M H x y v w Q hR hx hy q
  unfold fMulA at q
  split at q
  · exact .inr (opd_mul io M H _ _ v w Q hR hx hy q)
  · exact .inl (opd_rep io M H _ _ v w Q hR hx hy q)
theorem de_mul {da db : Den} {a b : Expr} {pos : Pos} (ha : DE X W da a) (hb : DE X W db b) : DE X W (dBin fMulA da db) (.BinOp a .Mult b pos) := de_op (op_rep.or op_mul) opd_mulA ha hb
/-! ### one place -/
def dUn (f : D → Option D) (da : Den) : Den := fun ρ M => (da ρ M).bind fun x M1 => match f x with
  | some z => .ok z M1
  | none => .bad
def fNeg : D → Option D
  | .int i => some (.int (-i))
  | _ => none
theorem de_neg {da : Den} {a : Expr} {pos : Pos} (ha : DE X W da a) : DE X W (dUn fNeg da) (.UnaryOp .USub a pos) :=
  PE.imp (pe_un un_neg ha) fun σ H Q ⟨io, M, ρ, hR, hE, g⟩ => ⟨io, M, ρ, hR, hE, g.bind.imp fun x M1 io1 H1 e1 r1 g1 v hv => by
    cases x with
    | int i =>
      cases hv
      exact ⟨i, rfl, Go.ok g1 r1 _ rfl⟩
    | _ => exact g1.elim⟩

/-! ### comparisons -/
def allO {α β : Type} (f : α → Option β) : List α → Option (List β)
  | [] => some []
  | x :: r => match f x, allO f r with
    | some y, some ys => some (y :: ys)
    | _, _ => none
/-- what a value reads as -/
def toPD (M : Mem) : Nat → D → Option PyData
  | 0, _ => none
  | n + 1, d => match d with
    | .non => some .none
    | .bl b => some (.bool b)
    | .int i => some (.int i)
    | .str x => some (.str x)
    | .tup ds => (allO (toPD M n) ds).map .tuple
    | .ro ds => (allO (toPD M n) ds).map .list
    | .ref a => match M[a]? with
      | some (.lst xs) => (allO (toPD M n) xs).map .list
      | _ => none
    | _ => none
theorem allO_dp {K : PySem.W.Frag} {G : Glb} {io : List Addr} {H : Hp} {f : D → Option PyData} : ∀ {ds : List D} {ps : List PyData} {vs : List V}, (∀ d p v, f d = some p → DV G io H d v → Dp K H v p) → allO f ds = some ps → DVs G io H ds vs → DpAll K H vs ps
  | [], _, _, _, e, h => by
    cases h
    cases e
    exact .nil
  | d :: ds, ps, _, hf, e, ⟨v, r, h, q, z⟩ => by
    cases h
    unfold allO at e
    split at e
    · rename_i y ys e1 e2
      cases e
      exact .cons (hf _ _ _ e1 q) (allO_dp hf e2 z)
    · cases e
theorem toPD_dp {G : Glb} {io : List Addr} {M : Mem} {H : Hp} (hR : RM G io M H) : ∀ {n : Nat} {d : D} {p : PyData} {v : V}, toPD M n d = some p → DV G io H d v → Dp G.K H v p
  | 0, _, _, _, e, _ => by cases e
  | n + 1, d, p, v, e, h => by
    cases d with
    | non => cases h; cases e; exact .non
    | bl b => cases h; cases e; exact .bl b
    | int i => cases h; cases e; exact .int i
    | str x => cases h; cases e; exact .str x
    | ty n => cases e
    | glo x => cases e
    | tup ds =>
      obtain ⟨q, vs, rfl, hq, hv⟩ := h
      obtain ⟨ps, e1, e2⟩ := Option.map_eq_some_iff.mp (show (allO (toPD M n) ds).map PyData.tuple = some p from e)
      subst e2
      exact .tup hq.sq (allO_dp (fun _ _ _ a b => toPD_dp hR a b) e1 hv)
    | ro ds =>
      obtain ⟨q, vs, rfl, hq, hv⟩ := h
      obtain ⟨ps, e1, e2⟩ := Option.map_eq_some_iff.mp (show (allO (toPD M n) ds).map PyData.list = some p from e)
      subst e2
      exact .lst hq.sq (allO_dp (fun _ _ _ a b => toPD_dp hR a b) e1 hv)
    | ref a =>
      obtain ⟨q, hq, rfl⟩ := h
      have e' : (match M[a]? with
        | some (.lst xs) => (allO (toPD M n) xs).map PyData.list
        | _ => none) = some p := e
      split at e'
      · rename_i xs hx
        obtain ⟨ps, e1, e2⟩ := Option.map_eq_some_iff.mp e'
        subst e2
        obtain ⟨vs, h1, h2⟩ := hR.obj _ _ _ hq hx
        exact .lst (SqL.of h1) (allO_dp (fun _ _ _ a b => toPD_dp hR a b) e1 h2)
      · cases e'
/-- the depth that is read -/
abbrev PDN : Nat := 66
def deqO (M : Mem) (x y : D) : Option Bool := match toPD M PDN x, toPD M PDN y with
  | some d, some e => if SeqAt.shaped d = true ∧ SeqAt.shaped e = true then some (PyData.eqv d e) else none
  | _, _ => none
def fEq (x y : D) (M : Mem) : Op := (deqO M x y).map fun b => (.bl b, M)
def fNe (x y : D) (M : Mem) : Op := (deqO M x y).map fun b => (.bl (!b), M)
theorem deqO_at {M : Mem} {x y : D} {b : Bool} (h : deqO M x y = some b) : ∃ d e, toPD M PDN x = some d ∧ toPD M PDN y = some e ∧ SeqAt.shaped d = true ∧ SeqAt.shaped e = true ∧ b = PyData.eqv d e := by
  unfold deqO at h
  split at h
  · rename_i d e h1 h2
    split at h
    · rename_i hs
      cases h
      exact ⟨d, e, h1, h2, hs.1, hs.2, rfl⟩
    · cases h
  · cases h
theorem opd_eq : OpD X (rEqD X.K) fEq := by
  intro io M H x y v w Q hR hx hy ⟨z, M', ee, k⟩
  obtain ⟨b, e1, e2⟩ := Option.map_eq_some_iff.mp ee
  cases e2
  obtain ⟨d, e, h1, h2, s1, s2, rfl⟩ := deqO_at e1
  exact ⟨d, e, toPD_dp hR h1 hx, toPD_dp hR h2 hy, s1, s2, k io H _ Ex.refl hR rfl⟩
theorem opd_ne : OpD X (rNeD X.K) fNe := by
  intro io M H x y v w Q hR hx hy ⟨z, M', ee, k⟩
  obtain ⟨b, e1, e2⟩ := Option.map_eq_some_iff.mp ee
  cases e2
  obtain ⟨d, e, h1, h2, s1, s2, rfl⟩ := deqO_at e1
  exact ⟨d, e, toPD_dp hR h1 hx, toPD_dp hR h2 hy, s1, s2, k io H _ Ex.refl hR rfl⟩
/-- x is y, of None -/
def fIs : D → D → Mem → Op
  | .non, .non, M => some (.bl true, M)
  | _, .non, M => some (.bl false, M)
  | _, _, _ => none
def fIsNot : D → D → Mem → Op
  | .non, .non, M => some (.bl false, M)
  | _, .non, M => some (.bl true, M)
  | _, _, _ => none
theorem dv_non {G : Glb} {io : List Addr} {H : Hp} {d : D} {v : V} (h : DV G io H d v) (hd : d ≠ .non) : v ≠ .non := by
  cases d with
  | non => exact absurd rfl hd
  | tup ds => obtain ⟨_, _, e, _⟩ := h; intro z; rw [z] at e; cases e
  | ro ds => obtain ⟨_, _, e, _⟩ := h; intro z; rw [z] at e; cases e
  | ref a => obtain ⟨_, _, e⟩ := h; intro z; rw [z] at e; cases e
  | glo a => obtain ⟨_, _, e⟩ := h; intro z; rw [z] at e; cases e
  | _ => intro z; rw [z] at h; cases h
theorem opd_is : OpD X (fun x y H Q => y = .non ∧ Q (.bl (decide (x = .non))) H) fIs := by
  intro io M H x y v w Q hR hx hy q
  unfold fIs at q
  split at q
  · cases hx
    cases hy
    exact ⟨rfl, q.same hR rfl⟩
  · rename_i hne
    cases hy
    exact ⟨rfl, by rw [decide_eq_false (dv_non hx hne)]; exact q.same hR rfl⟩
  · exact q.none_.elim
theorem opd_isNot : OpD X (fun x y H Q => y = .non ∧ Q (.bl (!decide (x = .non))) H) fIsNot := by
  intro io M H x y v w Q hR hx hy q
  unfold fIsNot at q
  split at q
  · cases hx
    cases hy
    exact ⟨rfl, q.same hR rfl⟩
  · rename_i hne
    cases hy
    exact ⟨rfl, by rw [decide_eq_false (dv_non hx hne)]; exact q.same hR rfl⟩
  · exact q.none_.elim
/-- order of ints and of texts -/
def fOrd (f : Int → Int → Bool) (g : List Nat → List Nat → Bool) : D → D → Mem → Op
  | .int i, .int j, M => some (.bl (f i j), M)
  | .str x, .str y, M => some (.bl (g x.cps.toList y.cps.toList), M)
  | _, _, _ => none
theorem opd_ord {f : Int → Int → Bool} {g : List Nat → List Nat → Bool} : OpD X (fun x y H Q => rI0 (fun i j => .bl (f i j)) x y H Q ∨ ∃ i j, x = .str i ∧ y = .str j ∧ Q (.bl (g i.cps.toList j.cps.toList)) H) (fOrd f g) := by
  intro io M H x y v w Q hR hx hy q
  unfold fOrd at q
  split at q
  · cases hx
    cases hy
    exact .inl ⟨_, _, rfl, rfl, q.same hR rfl⟩
  · cases hx
    cases hy
    exact .inr ⟨_, _, rfl, rfl, q.same hR rfl⟩
  · exact q.none_.elim
abbrev fLt := fOrd (fun i j => decide (i < j)) (fun x y => decide (x < y))
abbrev fLe := fOrd (fun i j => decide (i ≤ j)) (fun x y => !decide (y < x))
abbrev fGt := fOrd (fun i j => decide (j < i)) (fun x y => decide (y < x))
abbrev fGe := fOrd (fun i j => decide (j ≤ i)) (fun x y => !decide (x < y))
def inO (M : Mem) (x y : D) : Option Bool := match toPD M PDN x, toPD M PDN y with
  | some d, some (.list ds) => if SeqAt.shaped d = true ∧ SeqAt.shaped (.list ds) = true then some (ds.any fun z => PyData.eqv z d) else none
  | some d, some (.tuple ds) => if SeqAt.shaped d = true ∧ SeqAt.shaped (.tuple ds) = true then some (ds.any fun z => PyData.eqv z d) else none
  | _, _ => none
def fIn (x y : D) (M : Mem) : Op := (inO M x y).map fun b => (.bl b, M)
def fNotIn (x y : D) (M : Mem) : Op := (inO M x y).map fun b => (.bl (!b), M)
def rInT2 (K : PySem.W.Frag) (g : Bool → Bool) : R2 := fun x y H Q => ∃ d ds, Dp K H x d ∧ Dp K H y (.tuple ds) ∧ SeqAt.shaped d = true ∧ SeqAt.shaped (.tuple ds) = true ∧ Q (.bl (g (ds.any fun z => PyData.eqv z d))) H
theorem canLay_tup {ds : List PyData} (h : SeqAt.shaped (.tuple ds) = true) : PyData.canLayAll0 ds = true := by
  have h1 : (PyData.canLay0 (.tuple ds) && decide (PyData.depth (.tuple ds) ≤ 64)) = true := h
  have h2 := (Bool.and_eq_true_iff.mp h1).1
  simpa only [PyData.canLay0] using h2
theorem room_tup {A : Around} {d : PyData} {ds : List PyData} (sd : SeqAt.shaped d = true) (hu : A.units + 65 < cLine) : A.units + 1 + min (PyData.depthAll ds) d.depth < cLine := by
  have h1 : (d.canLay0 && decide (d.depth ≤ 64)) = true := sd
  have h2 : d.depth ≤ 64 := of_decide_eq_true (Bool.and_eq_true_iff.mp h1).2
  have h3 : min (PyData.depthAll ds) d.depth ≤ d.depth := Nat.min_le_right _ _
  omega
theorem canLay_of {d : PyData} (h : SeqAt.shaped d = true) : d.canLay0 = true := by
  have h1 : (d.canLay0 && decide (d.depth ≤ 64)) = true := h
  exact (Bool.and_eq_true_iff.mp h1).1
theorem op_inT2 (hu : X.A.units + 65 < cLine) : OpR X (compareOp .In) (rInT2 X.K fun b => b) := by
  intro pins s σ H x y v u Q I rx ry ⟨d, ds, hd, he, sd, se, q⟩
  obtain ⟨as, r1⟩ := Dp.reads I d x v hd rx
  obtain ⟨bs, r2⟩ := Dp.reads I (.tuple ds) y u he ry
  exact SeqAt.in_tuple_reads r2 r1 (canLay_tup se) (canLay_of sd) (room_tup sd hu) ⟨.bl _, H, I, rfl, q⟩
theorem op_notInT2 (hu : X.A.units + 65 < cLine) : OpR X (compareOp .NotIn) (rInT2 X.K fun b => !b) := by
  intro pins s σ H x y v u Q I rx ry ⟨d, ds, hd, he, sd, se, q⟩
  obtain ⟨as, r1⟩ := Dp.reads I d x v hd rx
  obtain ⟨bs, r2⟩ := Dp.reads I (.tuple ds) y u he ry
  exact SeqAt.notIn_tuple_reads r2 r1 (canLay_tup se) (canLay_of sd) (room_tup sd hu) ⟨.bl _, H, I, rfl, q⟩
theorem inO_at {M : Mem} {x y : D} {b : Bool} (h : inO M x y = some b) : ∃ d ds, toPD M PDN x = some d ∧ SeqAt.shaped d = true ∧ b = (ds.any fun z => PyData.eqv z d) ∧
    ((toPD M PDN y = some (.list ds) ∧ SeqAt.shaped (.list ds) = true) ∨ (toPD M PDN y = some (.tuple ds) ∧ SeqAt.shaped (.tuple ds) = true)) := by
  unfold inO at h
  split at h
  · rename_i d ds h1 h2
    split at h
    · rename_i hs
      cases h
      exact ⟨d, ds, h1, hs.1, rfl, .inl ⟨h2, hs.2⟩⟩
    · cases h
  · rename_i d ds h1 h2
    split at h
    · rename_i hs
      cases h
      exact ⟨d, ds, h1, hs.1, rfl, .inr ⟨h2, hs.2⟩⟩
    · cases h
  · cases h
theorem opd_in : OpD X (fun x y H Q => rInD X.K x y H Q ∨ rInT2 X.K (fun b => b) x y H Q) fIn := by
  intro io M H x y v w Q hR hx hy ⟨z, M', e, k⟩
  obtain ⟨b, e1, e2⟩ := Option.map_eq_some_iff.mp e
  cases e2
  obtain ⟨d, ds, h1, sd, rfl, ⟨h2, s2⟩ | ⟨h2, s2⟩⟩ := inO_at e1
  · exact .inl ⟨d, ds, toPD_dp hR h1 hx, toPD_dp hR h2 hy, sd, s2, k io H _ Ex.refl hR rfl⟩
  · exact .inr ⟨d, ds, toPD_dp hR h1 hx, toPD_dp hR h2 hy, sd, s2, k io H _ Ex.refl hR rfl⟩
theorem opd_notIn : OpD X (fun x y H Q => rNotInD X.K x y H Q ∨ rInT2 X.K (fun b => !b) x y H Q) fNotIn := by
  intro io M H x y v w Q hR hx hy ⟨z, M', e, k⟩
  obtain ⟨b, e1, e2⟩ := Option.map_eq_some_iff.mp e
  cases e2
  obtain ⟨d, ds, h1, sd, rfl, ⟨h2, s2⟩ | ⟨h2, s2⟩⟩ := inO_at e1
  · exact .inl ⟨d, ds, toPD_dp hR h1 hx, toPD_dp hR h2 hy, sd, s2, k io H _ Ex.refl hR rfl⟩
  · exact .inr ⟨d, ds, toPD_dp hR h1 hx, toPD_dp hR h2 hy, sd, s2, k io H _ Ex.refl hR rfl⟩
/-- what an ordinary place of the text gives: nothing is handled, there is room -/
structure Std (X : Cx) : Prop where
  calm : X.calm = true
  un : X.A.units + 65 < cLine
/-- a comparison's operator, its rule and its denotation -/
def CmpOk (X : Cx) (op : CmpOp) (f : D → D → Mem → Op) : Prop := ∃ r, OpR X (compareOp op) r ∧ OpD X r f
theorem ck_eq (c : Std X) : CmpOk X .Eq fEq := ⟨_, op_eqD (by have := c.un; omega), opd_eq⟩
theorem ck_ne (c : Std X) : CmpOk X .NotEq fNe := ⟨_, op_neD (by have := c.un; omega), opd_ne⟩
theorem ck_lt : CmpOk X .Lt fLt := ⟨_, op_lt.or op_lt_str, opd_ord⟩
theorem ck_le : CmpOk X .LtE fLe := ⟨_, op_le.or op_le_str, opd_ord⟩
theorem ck_gt : CmpOk X .Gt fGt := ⟨_, op_gt.or op_gt_str, opd_ord⟩
theorem ck_ge : CmpOk X .GtE fGe := ⟨_, op_ge.or op_ge_str, opd_ord⟩
theorem ck_is : CmpOk X .Is fIs := ⟨_, op_isN, opd_is⟩
theorem ck_isNot : CmpOk X .IsNot fIsNot := ⟨_, op_notN, opd_isNot⟩
theorem ck_in (c : Std X) : CmpOk X .In fIn := ⟨_, (op_inD c.un).or (op_inT2 c.un), opd_in⟩
theorem ck_notIn (c : Std X) : CmpOk X .NotIn fNotIn := ⟨_, (op_notInD c.un).or (op_notInT2 c.un), opd_notIn⟩
theorem de_cmp {op : CmpOp} {f : D → D → Mem → Op} {da db : Den} {a b : Expr} {pos : Pos} (k : CmpOk X op f) (ha : DE X W da a) (hb : DE X W db b) (hm : behindInMarks op b = false := by first | exact nomark _ | rfl) : DE X W (dBin f da db) (.Compare a [op] [b] pos) := by
  obtain ⟨r, h, ho⟩ := k
  exact PE.imp (pe_cmpR h ha hb hm) (tOp_imp ho)
/-- a op b op2 c -/
def dChain (f g : D → D → Mem → Op) (da db dc : Den) : Den := fun ρ M => (da ρ M).bind fun x M1 => (db ρ M1).bind fun y M2 => (lift (f x y M2)).bind fun z M3 => match z with
  | .bl true => (dc ρ M3).bind fun w M4 => lift (g y w M4)
  | .bl false => .ok (.bl false) M3
  | _ => .bad
theorem Go.lift_ {α : Type} {G : Glb} {W : Value → Option Addr → Hp → Prop} {io : List Addr} {H : Hp} {o : Op} {P : D → Mem → List Addr → Hp → Prop} (h : Go G W io H (lift o) P) : ∃ z M', o = some (z, M') ∧ Go G W io H (.ok z M') P := by
  cases o with
  | none => exact h.elim
  | some p => exact ⟨p.1, p.2, rfl, h⟩
theorem tChain_imp {f g : D → D → Mem → Op} {r r' : R2} {da db dc : Den} (ho : OpD X r f) (ho' : OpD X r' g) : ∀ σ H Q, tE (gX X) W (dChain f g da db dc) σ H Q → tChain r r' (tE (gX X) W da) (tE (gX X) W db) (tE (gX X) W dc) σ H Q := by
  intro σ H Q ⟨io, M, ρ, hR, hE, q⟩
  refine ⟨io, M, ρ, hR, hE, q.bind.imp fun x M1 io1 H1 e1 r1 q1 v hv => ⟨io1, M1, ρ, r1, hE.mono e1, q1.bind.imp fun y M2 io2 H2 e2 r2 q2 w hw => ?_⟩⟩
  have hE2 : RE (gX X) io2 H2 ρ σ := (hE.mono e1).mono e2
  cases ho2 : f x y M2 with
  | none => rw [ho2] at q2; exact q2.elim
  | some p =>
    obtain ⟨z, M3⟩ := p
    rw [ho2] at q2
    refine ho io2 M2 H2 x y v w _ r2 (DV.mono e2 _ _ hv) hw ⟨z, M3, ho2, fun io3 H3 u e3 r3 hu => ?_⟩
    have q3 := Go.later e3 q2
    cases z with
    | bl k =>
      cases hu
      refine ⟨k, rfl, ?_⟩
      cases k with
      | false => exact iteF (Go.ok q3 r3 _ rfl)
      | true =>
        have q3' : Go (gX X) (fun c dd H' => W c dd σ H') io3 H3 ((dc ρ M3).bind fun w M4 => lift (g y w M4)) (fun x M' io' H' => ∀ v, DV (gX X) io' H' x v → Q v H') := q3
        exact iteT ⟨io3, M3, ρ, r3, hE2.mono e3, (Go.bind q3').imp fun w' M4 io4 H4 e4 r4 q4 v' hv' => ho' io4 M4 H4 y w' w v' Q r4 (DV.mono e4 _ _ (DV.mono e3 _ _ hw)) hv' q4.gv⟩
    | _ => exact q3.elim
theorem de_chain {op op' : CmpOp} {f g : D → D → Mem → Op} {da db dc : Den} {a b c : Expr} {pos : Pos} (k : CmpOk X op f) (k' : CmpOk X op' g) (ha : DE X W da a) (hb : DE X W db b) (hc : DE X W dc c)
    (hm : lastMarks [op, op'] [b, c] = false := by with_unfolding_all rfl) : DE X W (dChain f g da db dc) (.Compare a [op, op'] [b, c] pos) := by
  obtain ⟨r, h, ho⟩ := k
  obtain ⟨r', h', ho'⟩ := k'
  exact PE.imp (pe_chain h h' ha hb hc hm) (tChain_imp ho ho')

/-! ### tests -/
/-- a value's truth -/
def truO (M : Mem) : D → Option Bool
  | .non => some false
  | .bl b => some b
  | .int i => some (i != 0)
  | .str x => if x.length ≤ SZ then some ((x.length : Int) != 0) else none
  | .tup xs => some !xs.isEmpty
  | .ro xs => some !xs.isEmpty
  | .ref a => match M[a]? with
    | some (.lst xs) => some !xs.isEmpty
    | _ => none
  | _ => none
def dTru (da : Den) : DenT := fun ρ M => (da ρ M).bind fun x M1 => match truO M1 x with
  | some b => .ok b M1
  | none => .bad
theorem DVs.isEmpty {G : Glb} {io : List Addr} {H : Hp} : ∀ {ds : List D} {vs : List V}, DVs G io H ds vs → ds.isEmpty = vs.isEmpty
  | [], _, h => by cases h; rfl
  | _ :: _, _, ⟨_, _, h, _, _⟩ => by cases h; rfl
theorem truO_v {G : Glb} {io : List Addr} {M : Mem} {H : Hp} {d : D} {v : V} {b : Bool} (hR : RM G io M H) (h : truO M d = some b) (hv : DV G io H d v) : TruV G.K v H b := by
  cases d with
  | non => cases hv; cases h; rfl
  | bl b => cases hv; cases h; rfl
  | int i => cases hv; cases h; rfl
  | str x =>
    cases hv
    have h' : (if x.length ≤ SZ then some ((x.length : Int) != 0) else none) = some b := h
    split at h'
    · rename_i hl
      cases h'
      exact ⟨by rw [← sz_eq]; exact hl, rfl⟩
    · cases h'
  | ty n => cases h
  | glo x => cases h
  | tup ds =>
    obtain ⟨p, vs, rfl, hp, hd⟩ := hv
    cases h
    exact .inr (.inl ⟨vs, hp.sq, by rw [hd.isEmpty]⟩)
  | ro ds =>
    obtain ⟨p, vs, rfl, hp, hd⟩ := hv
    cases h
    exact .inl ⟨vs, hp.sq, by rw [hd.isEmpty]⟩
  | ref a =>
    obtain ⟨p, hp, rfl⟩ := hv
    have h' : (match M[a]? with
      | some (.lst xs) => some !xs.isEmpty
      | _ => none) = some b := h
    split at h'
    · rename_i xs hx
      cases h'
      obtain ⟨vs, h1, h2⟩ := hR.obj _ _ _ hp hx
      exact .inl ⟨vs, SqL.of h1, by rw [h2.isEmpty]⟩
    · cases h'
theorem dt_tru {da : Den} {a : Expr} (ha : DE X W da a) (he : ∀ whole, isTrue a X.env whole = (do let v ← whole; standAt a.pos; holding [v] (truthy v)) := by intro _; rfl) : DT X W (dTru da) a :=
  PT.imp (pt_truth ha he) fun σ H Q ⟨io, M, ρ, hR, hE, g⟩ => ⟨io, M, ρ, hR, hE, g.bind.imp fun x M1 io1 H1 e1 r1 g1 v hv => by
    cases e : truO M1 x with
    | none => rw [e] at g1; exact g1.elim
    | some b =>
      rw [e] at g1
      exact ⟨b, truO_v r1 e hv, Go.ok g1 r1⟩⟩
/-- a value that is a bool, as a test (comparisons) -/
def dB (da : Den) : DenT := fun ρ M => (da ρ M).bind fun x M1 => match x with
  | .bl b => .ok b M1
  | _ => .bad
theorem tTest_imp {da : Den} {t : TE} (h : ∀ σ H Q, tE (gX X) W da σ H Q → t σ H Q) : ∀ σ H Q, tT (gX X) W (dB da) σ H Q → tTest t σ H Q := fun σ H Q ⟨io, M, ρ, hR, hE, g⟩ => by
  refine h σ H _ ⟨io, M, ρ, hR, hE, g.bind.imp fun x M1 io1 H1 e1 r1 g1 v hv => ?_⟩
  cases x with
  | bl b => cases hv; exact ⟨b, rfl, Go.ok g1 r1⟩
  | _ => exact g1.elim
theorem dt_cmp {op : CmpOp} {f : D → D → Mem → Op} {da db : Den} {a b : Expr} {pos : Pos} (k : CmpOk X op f) (ha : DE X W da a) (hb : DE X W db b) (hm : behindInMarks op b = false := by first | exact nomark _ | rfl) : DT X W (dB (dBin f da db)) (.Compare a [op] [b] pos) := by
  obtain ⟨r, h, ho⟩ := k
  exact PT.imp (pt_cmpR h ha hb hm) (tTest_imp (tOp_imp ho))
theorem dt_chain {op op' : CmpOp} {f g : D → D → Mem → Op} {da db dc : Den} {a b c : Expr} {pos : Pos} (k : CmpOk X op f) (k' : CmpOk X op' g) (ha : DE X W da a) (hb : DE X W db b) (hc : DE X W dc c)
    (hm : lastMarks [op, op'] [b, c] = false := by with_unfolding_all rfl) : DT X W (dB (dChain f g da db dc)) (.Compare a [op, op'] [b, c] pos) := by
  obtain ⟨r, h, ho⟩ := k
  obtain ⟨r', h', ho'⟩ := k'
  exact PT.imp (pt_chain h h' ha hb hc hm) (tTest_imp (tChain_imp ho ho'))
def dNotT (d : DenT) : DenT := fun ρ M => (d ρ M).bind fun b M1 => .ok (!b) M1
def dAndT (d e : DenT) : DenT := fun ρ M => (d ρ M).bind fun b M1 => if b = true then e ρ M1 else .ok false M1
def dOrT (d e : DenT) : DenT := fun ρ M => (d ρ M).bind fun b M1 => if b = true then .ok true M1 else e ρ M1
theorem dt_not {d : DenT} {a : Expr} {pos : Pos} (h : DT X W d a) : DT X W (dNotT d) (.UnaryOp .Not a pos) :=
  PT.imp (pt_not h) fun σ H Q ⟨io, M, ρ, hR, hE, g⟩ => ⟨io, M, ρ, hR, hE, g.bind.imp fun x M1 io1 H1 e1 r1 g1 => Go.ok g1 r1⟩
abbrev DW (X : Cx) (W : WX) (d : DenT) (e : Expr) : Prop := PW X e (tT (gX X) W d)
theorem PW.imp {X : Cx} {e : Expr} {t t' : TT} (h : PW X e t) (hi : ∀ σ H Q, t' σ H Q → t σ H Q) : PW X e t' := ⟨fun wh pins s σ H Q I q => h.run wh pins s σ H Q I (hi _ _ _ q)⟩
theorem dw_and1 {d : DenT} {a : Expr} {pos : Pos} (h : DT X W d a) : DW X W d (.BoolOp .And [a] pos) := pw_and1 h
theorem dw_or1 {d : DenT} {a : Expr} {pos : Pos} (h : DT X W d a) : DW X W d (.BoolOp .Or [a] pos) := pw_or1 h
theorem dw_and {d e : DenT} {a b : Expr} {r : List Expr} {pos : Pos} (h : DT X W d a) (h' : DW X W e (.BoolOp .And (b :: r) pos)) : DW X W (dAndT d e) (.BoolOp .And (a :: b :: r) pos) :=
  PW.imp (pw_and h h') fun σ H Q ⟨io, M, ρ, hR, hE, g⟩ => ⟨io, M, ρ, hR, hE, g.bind.imp fun x M1 io1 H1 e1 r1 g1 => by
    cases x with
    | true => exact iteT ⟨io1, M1, ρ, r1, hE.mono e1, by simpa using g1⟩
    | false => exact iteF (Go.ok (by simpa using g1) r1)⟩
theorem dw_or {d e : DenT} {a b : Expr} {r : List Expr} {pos : Pos} (h : DT X W d a) (h' : DW X W e (.BoolOp .Or (b :: r) pos)) : DW X W (dOrT d e) (.BoolOp .Or (a :: b :: r) pos) :=
  PW.imp (pw_or h h') fun σ H Q ⟨io, M, ρ, hR, hE, g⟩ => ⟨io, M, ρ, hR, hE, g.bind.imp fun x M1 io1 H1 e1 r1 g1 => by
    cases x with
    | false => exact iteF ⟨io1, M1, ρ, r1, hE.mono e1, by simpa using g1⟩
    | true => exact iteT (Go.ok (by simpa using g1) r1)⟩
theorem dt_w {d : DenT} {a : Expr} (h : DW X W d a) : DT X W d a := PW.pt h
end
end Lp
/-! LpStmt: values by truth, displays, subscripts, slices; statements, loops; defs and their calls. -/
namespace Lp
open PySem PySem.Spec PyProof.Rows L2
section
variable {X : Cx} {W : WX}
/-! ### and, or, not as values; a if t else b -/
def dAnd (da db : Den) : Den := fun ρ M => (da ρ M).bind fun x M1 => match truO M1 x with
  | some true => db ρ M1
  | some false => .ok x M1
  | none => .bad
def dOr (da db : Den) : Den := fun ρ M => (da ρ M).bind fun x M1 => match truO M1 x with
  | some false => db ρ M1
  | some true => .ok x M1
  | none => .bad
def dNot (da : Den) : Den := fun ρ M => (da ρ M).bind fun x M1 => match truO M1 x with
  | some b => .ok (.bl (!b)) M1
  | none => .bad
theorem de_one {da : Den} {a : Expr} {op : BoolOp} {pos : Pos} (ha : DE X W da a) : DE X W da (.BoolOp op [a] pos) := pe_one ha
theorem de_and {da db : Den} {a b : Expr} {r : List Expr} {pos : Pos} (ha : DE X W da a) (hb : DE X W db (.BoolOp .And (b :: r) pos)) : DE X W (dAnd da db) (.BoolOp .And (a :: b :: r) pos) :=
  PE.imp (pe_andT ha hb) fun σ H Q ⟨io, M, ρ, hR, hE, g⟩ => ⟨io, M, ρ, hR, hE, g.bind.imp fun x M1 io1 H1 e1 r1 g1 v hv => by
    cases e : truO M1 x with
    | none => rw [e] at g1; exact g1.elim
    | some b =>
      rw [e] at g1
      refine ⟨b, truO_v r1 e hv, ?_⟩
      cases b with
      | true => exact iteT ⟨io1, M1, ρ, r1, hE.mono e1, g1⟩
      | false => exact iteF (Go.ok g1 r1 v hv)⟩
theorem de_or {da db : Den} {a b : Expr} {r : List Expr} {pos : Pos} (ha : DE X W da a) (hb : DE X W db (.BoolOp .Or (b :: r) pos)) : DE X W (dOr da db) (.BoolOp .Or (a :: b :: r) pos) :=
  PE.imp (pe_orT ha hb) fun σ H Q ⟨io, M, ρ, hR, hE, g⟩ => ⟨io, M, ρ, hR, hE, g.bind.imp fun x M1 io1 H1 e1 r1 g1 v hv => by
    cases e : truO M1 x with
    | none => rw [e] at g1; exact g1.elim
    | some b =>
      rw [e] at g1
      refine ⟨b, truO_v r1 e hv, ?_⟩
      cases b with
      | false => exact iteF ⟨io1, M1, ρ, r1, hE.mono e1, g1⟩
      | true => exact iteT (Go.ok g1 r1 v hv)⟩
theorem de_not {da : Den} {a : Expr} {pos : Pos} (ha : DE X W da a) : DE X W (dNot da) (.UnaryOp .Not a pos) :=
  PE.imp (pe_notT ha) fun σ H Q ⟨io, M, ρ, hR, hE, g⟩ => ⟨io, M, ρ, hR, hE, g.bind.imp fun x M1 io1 H1 e1 r1 g1 v hv => by
    cases e : truO M1 x with
    | none => rw [e] at g1; exact g1.elim
    | some b =>
      rw [e] at g1
      exact ⟨b, truO_v r1 e hv, Go.ok g1 r1 _ rfl⟩⟩
def dIfE (t : DenT) (da db : Den) : Den := fun ρ M => (t ρ M).bind fun b M1 => if b = true then da ρ M1 else db ρ M1
theorem de_if {t : DenT} {da db : Den} {c a b : Expr} {pos : Pos} (hc : DT X W t c) (ha : DE X W da a) (hb : DE X W db b) : DE X W (dIfE t da db) (.IfExp c a b pos) :=
  PE.imp (pe_ifExp hc ha hb) fun σ H Q ⟨io, M, ρ, hR, hE, g⟩ => ⟨io, M, ρ, hR, hE, g.bind.imp fun x M1 io1 H1 e1 r1 g1 => by
    cases x with
    | true => exact iteT ⟨io1, M1, ρ, r1, hE.mono e1, by simpa using g1⟩
    | false => exact iteF ⟨io1, M1, ρ, r1, hE.mono e1, by simpa using g1⟩⟩

/-! ### lists of expressions, displays -/
def dNil : DenA := fun _ M => .ok [] M
def dCons (d : Den) (r : DenA) : DenA := fun ρ M => (d ρ M).bind fun x M1 => (r ρ M1).bind fun xs M2 => .ok (x :: xs) M2
theorem da_nil : DA X W dNil [] := PA.imp pa_nil fun σ H Q ⟨io, M, ρ, hR, hE, g⟩ => Go.ok g hR [] DVs.nil
theorem da_cons {d : Den} {r : DenA} {e : Expr} {es : List Expr} (h : DE X W d e) (t : DA X W r es) (hs : starEach (e :: es) X.env = (false, eval e X.env) :: starEach es X.env := by rfl) : DA X W (dCons d r) (e :: es) :=
  PA.imp (pa_cons h t hs) fun σ H Q ⟨io, M, ρ, hR, hE, g⟩ => ⟨io, M, ρ, hR, hE, g.bind.imp fun x M1 io1 H1 e1 r1 g1 v hv => ⟨io1, M1, ρ, r1, hE.mono e1, g1.bind.imp fun xs M2 io2 H2 e2 r2 g2 vs hvs => Go.ok g2 r2 (v :: vs) (DVs.cons (DV.mono e2 _ _ hv) hvs)⟩⟩
def dTup (d : DenA) : Den := fun ρ M => (d ρ M).bind fun xs M1 => if xs.length ≤ SZ then .ok (.tup xs) M1 else .bad
def dLst (d : DenA) : Den := fun ρ M => (d ρ M).bind fun xs M1 => if xs.length ≤ SZ then .ok (.ref M1.length) (M1 ++ [.lst xs]) else .bad
theorem de_tup {d : DenA} {es : List Expr} {k : Nat} {pos : Pos} (h : DA X W d es) : DE X W (dTup d) (.Tuple es k pos) :=
  PE.imp (pe_tup h) fun σ H Q ⟨io, M, ρ, hR, hE, g⟩ => ⟨io, M, ρ, hR, hE, g.bind.imp fun xs M1 io1 H1 e1 r1 g1 vs hvs => by
    split at g1
    · rename_i hl
      exact ⟨by rw [← sz_eq, ← hvs.length]; exact hl, fun p hp => g1 io1 _ (ex_tup hp) (r1.tup hp) (.ref p) ⟨p, vs, rfl, RoT.of upd_same, DVs.mono (ex_tup hp) _ _ hvs⟩⟩
    · exact g1.elim⟩
theorem de_lst {d : DenA} {es : List Expr} {pos : Pos} (h : DA X W d es) : DE X W (dLst d) (.List es pos) :=
  PE.imp (pe_lst h) fun σ H Q ⟨io, M, ρ, hR, hE, g⟩ => ⟨io, M, ρ, hR, hE, g.bind.imp fun xs M1 io1 H1 e1 r1 g1 vs hvs => by
    split at g1
    · rename_i hl
      refine ⟨by rw [← sz_eq, ← hvs.length]; exact hl, fun p hp => g1 _ _ (ex_new hp) (r1.new hp ⟨vs, upd_same, DVs.mono (ex_new hp) _ _ hvs⟩) (.ref p) ⟨p, ?_, rfl⟩⟩
      rw [← r1.len]
      exact List.getElem?_concat_length
    · exact g1.elim⟩

/-! ### subscripts, slices -/
def fIx : D → D → Mem → Op
  | .ref a, .int i, M => match M[a]? with
    | some (.lst xs) => (atI xs i).map fun x => (x, M)
    | _ => none
  | .ro xs, .int i, M => (atI xs i).map fun x => (x, M)
  | .tup xs, .int i, M => (atI xs i).map fun x => (x, M)
  | .str z, .int i, M => if z.length ≤ SZ then (atI z.cps.toList i).map fun c => (.str ⟨#[c]⟩, M) else none
  | _, _, _ => none
theorem atI_dv {G : Glb} {io : List Addr} {H : Hp} {ds : List D} {vs : List V} {i : Int} {d : D} (r : DVs G io H ds vs) (h : atI ds i = some d) : ∃ v, atI vs i = some v ∧ DV G io H d v := by
  unfold atI at h ⊢
  rw [r.length] at h
  cases e : ixN vs.length i with
  | none => rw [e] at h; cases h
  | some j =>
    rw [e] at h
    obtain ⟨v, h1, h2⟩ := r.get h
    exact ⟨v, h1, h2⟩
theorem opd_ix : OpD X (rIx X.K) fIx := by
  intro io M H x y v w Q hR hx hy q
  unfold fIx at q
  split at q
  · rename_i a i
    obtain ⟨p, hp, rfl⟩ := hx
    cases hy
    split at q
    · rename_i xs hm
      obtain ⟨vs, h1, h2⟩ := hR.obj _ _ _ hp hm
      obtain ⟨z, M', e, k⟩ := q
      obtain ⟨d, e1, e2⟩ := Option.map_eq_some_iff.mp e
      cases e2
      obtain ⟨u, h3, h4⟩ := atI_dv h2 e1
      exact .inl ⟨p, vs, _, u, rfl, rfl, SqL.of h1, h3, k io H u Ex.refl hR h4⟩
    · exact q.none_.elim
  · obtain ⟨p, vs, rfl, hp, h2⟩ := hx
    cases hy
    obtain ⟨z, M', e, k⟩ := q
    obtain ⟨d, e1, e2⟩ := Option.map_eq_some_iff.mp e
    cases e2
    obtain ⟨u, h3, h4⟩ := atI_dv h2 e1
    exact .inl ⟨p, vs, _, u, rfl, rfl, hp.sq, h3, k io H u Ex.refl hR h4⟩
  · obtain ⟨p, vs, rfl, hp, h2⟩ := hx
    cases hy
    obtain ⟨z, M', e, k⟩ := q
    obtain ⟨d, e1, e2⟩ := Option.map_eq_some_iff.mp e
    cases e2
    obtain ⟨u, h3, h4⟩ := atI_dv h2 e1
    exact .inr (.inl ⟨p, vs, _, u, rfl, rfl, hp.sq, h3, k io H u Ex.refl hR h4⟩)
  · cases hx
    cases hy
    split at q
    · rename_i hl
      obtain ⟨z, M', e, k⟩ := q
      obtain ⟨d, e1, e2⟩ := Option.map_eq_some_iff.mp e
      cases e2
      exact .inr (.inr ⟨_, _, d, rfl, rfl, by rw [← sz_eq]; exact hl, e1, k io H _ Ex.refl hR rfl⟩)
    · exact q.none_.elim
  · exact q.none_.elim
theorem de_ix {da db : Den} {a b : Expr} {pos : Pos} (ha : DE X W da a) (hb : DE X W db b) (hs : PlainIx b := by exact fun _ _ => rfl) : DE X W (dBin fIx da db) (.Subscript a b pos) := PE.imp (pe_ix ix_seq ha hb hs) (tOp_imp opd_ix)
abbrev DenO := Env → Mem → R (Option Int)
def tO (G : Glb) (W : WX) (d : DenO) : TO := fun σ H Q => ∃ io M ρ, RM G io M H ∧ RE G io H ρ σ ∧ Go G (fun c dd H' => W c dd σ H') io H (d ρ M) fun x M' io' H' => Q x H'
abbrev DO (X : Cx) (W : WX) (d : DenO) (e : Option Expr) : Prop := PO X e (tO (gX X) W d)
theorem PO.imp {X : Cx} {e : Option Expr} {t t' : TO} (h : PO X e t) (hi : ∀ σ H Q, t' σ H Q → t σ H Q) : PO X e t' := ⟨fun pins s σ H Q I q => h.run pins s σ H Q I (hi _ _ _ q)⟩
def dNoPart : DenO := fun _ M => .ok none M
def dPart (d : Den) : DenO := fun ρ M => (d ρ M).bind fun x M1 => match x with
  | .int i => .ok (some i) M1
  | _ => .bad
theorem do_none : DO X W dNoPart none := PO.imp po_none fun σ H Q ⟨io, M, ρ, hR, hE, g⟩ => Go.ok g hR
theorem do_some {d : Den} {e : Expr} (h : DE X W d e) : DO X W (dPart d) (some e) := PO.imp (po_some h) fun σ H Q ⟨io, M, ρ, hR, hE, g⟩ => ⟨io, M, ρ, hR, hE, g.bind.imp fun x M1 io1 H1 e1 r1 g1 v hv => by
  cases x with
  | int i => cases hv; exact ⟨i, rfl, Go.ok g1 r1⟩
  | _ => exact g1.elim⟩
def cutD (xs : List D) (lo hi : Option Int) : List D := (xs.drop (HT.sIx xs.length 0 lo)).take (HT.sIx xs.length xs.length hi - HT.sIx xs.length 0 lo)
def fSl : D → Option Int → Option Int → Mem → Op
  | .ref a, lo, hi, M => match M[a]? with
    | some (.lst xs) => some (.ref M.length, M ++ [.lst (cutD xs lo hi)])
    | _ => none
  | .ro xs, lo, hi, M => some (.ref M.length, M ++ [.lst (cutD xs lo hi)])
  | .tup xs, lo, hi, M => some (.tup (cutD xs lo hi), M)
  | .str z, lo, hi, M => if z.length ≤ SZ then some (.str (cutS z lo hi), M) else none
  | _, _, _, _ => none
theorem cut_dv {G : Glb} {io : List Addr} {H : Hp} {ds : List D} {vs : List V} (r : DVs G io H ds vs) (lo hi : Option Int) : DVs G io H (cutD ds lo hi) (cutV vs lo hi) := by
  unfold cutD cutV
  rw [r.length]
  exact DVs.take _ (DVs.drop _ r)
theorem cut_whole {ds : List D} {lo hi : Option Int} (h : HT.sIx ds.length 0 lo = 0 ∧ HT.sIx ds.length ds.length hi = ds.length) : cutD ds lo hi = ds := by
  unfold cutD
  rw [h.1, h.2]
  simp
def dSl (da : Den) (dl dh : DenO) : Den := fun ρ M => (da ρ M).bind fun x M1 => (dl ρ M1).bind fun lo M2 => (dh ρ M2).bind fun hi M3 => lift (fSl x lo hi M3)
theorem sl_imp {io : List Addr} {M : Mem} {H : Hp} {x : D} {v : V} {lo hi : Option Int} {Q : VK} (hR : RM (gX X) io M H) (hx : DV (gX X) io H x v) (q : Gv (gX X) io H (fSl x lo hi M) Q) : (rSlL X.K v lo hi H Q ∨ rSlA X.K v lo hi H Q) ∨ rSlS v lo hi H Q := by
  unfold fSl at q
  split at q
  · obtain ⟨p, hp, rfl⟩ := hx
    split at q
    · rename_i xs hm
      obtain ⟨vs, h1, h2⟩ := hR.obj _ _ _ hp hm
      exact .inl (.inl ⟨p, vs, rfl, SqL.of h1, fun u hu => q.new hR hu ⟨_, upd_same, DVs.mono (ex_new hu) _ _ (cut_dv h2 _ _)⟩⟩)
    · exact q.none_.elim
  · obtain ⟨p, vs, rfl, hp, h2⟩ := hx
    exact .inl (.inl ⟨p, vs, rfl, hp.sq, fun u hu => q.new hR hu ⟨_, upd_same, DVs.mono (ex_new hu) _ _ (cut_dv h2 _ _)⟩⟩)
  · obtain ⟨p, vs, rfl, hp, h2⟩ := hx
    refine .inl (.inr ⟨p, vs, rfl, hp.sq, fun e => ?_, fun _ u hu => q.tup hR hu (cut_dv h2 _ _)⟩)
    rw [← h2.length] at e
    rw [cut_whole e] at q
    exact q.same hR ⟨p, vs, rfl, hp, h2⟩
  · cases hx
    split at q
    · rename_i hl
      exact .inr ⟨_, rfl, by rw [← sz_eq]; exact hl, q.same hR rfl⟩
    · exact q.none_.elim
  · exact q.none_.elim
theorem de_slice {da : Den} {dl dh : DenO} {a : Expr} {lo hi : Option Expr} {p2 pos : Pos} (ha : DE X W da a) (hl : DO X W dl lo) (hh : DO X W dh hi) : DE X W (dSl da dl dh) (.Subscript a (.Slice lo hi none p2) pos) :=
  PE.imp (pe_slice (SlR.or (SlR.or sl_list sl_tupA) sl_str) ha hl hh) fun σ H Q ⟨io, M, ρ, hR, hE, g⟩ => ⟨io, M, ρ, hR, hE, g.bind.imp fun x M1 io1 H1 e1 r1 g1 v hv =>
    ⟨io1, M1, ρ, r1, hE.mono e1, g1.bind.imp fun lo M2 io2 H2 e2 r2 g2 => ⟨io2, M2, ρ, r2, (hE.mono e1).mono e2, g2.bind.imp fun hi M3 io3 H3 e3 r3 g3 => sl_imp r3 (DV.mono e3 _ _ (DV.mono e2 _ _ hv)) g3.gv⟩⟩⟩

/-! ### statements -/
def toS {α : Type} (r : R α) (ρ : Env) (k : α → Mem → SR) : SR := match r with
  | .ok a M => k a M
  | .exc C fs M => .exc C fs ρ M
  | .bad => .bad
theorem GoS.of {α : Type} {G : Glb} {io : List Addr} {H : Hp} {r : R α} {ρ : Env} {σ : St} {k : α → Mem → SR} {Dn : Ends} (hE : RE G io H ρ σ) (h : GoS G W io H (toS r ρ k) Dn) :
    Go G (fun c dd H' => W c dd σ H') io H r fun a M' io' H' => GoS G W io' H' (k a M') Dn := by
  cases r with
  | ok a M => exact fun i2 H2 e2 r2 => GoS.later e2 h
  | exc C fs M => exact fun i2 H2 c dd e2 r2 x => h i2 H2 σ c dd e2 r2 (hE.mono e2) x
  | bad => exact h
theorem GoS.nx_ {G : Glb} {io : List Addr} {H : Hp} {ρ : Env} {σ : St} {M : Mem} {Dn : Ends} (h : GoS G W io H (.nx ρ M) Dn) (hR : RM G io M H) (hE : RE G io H ρ σ) : Dn.nx σ H := h io H σ Ex.refl hR hE
/-- targets -/
abbrev Bd := D → Env → Mem → Option Env
def tG (G : Glb) (b : Bd) : TG := fun v σ H Q => ∃ io M ρ x ρ', RM G io M H ∧ RE G io H ρ σ ∧ DV G io H x v ∧ b x ρ M = some ρ' ∧ ∀ σ', RE G io H ρ' σ' → Q σ' H
abbrev DG (X : Cx) (b : Bd) (e : Expr) : Prop := PG X e (tG (gX X) b)
theorem PG.imp {e : Expr} {t t' : TG} (h : PG X e t) (hi : ∀ v σ H Q, t' v σ H Q → t v σ H Q) : PG X e t' := ⟨fun pins s σ H v u Q I r q => h.run pins s σ H v u Q I r (hi _ _ _ _ q)⟩
def bName (i : Nat) : Bd := fun x ρ _ => some (ρ.set i (some x))
theorem dg_name (i : Nat) {x : Str} {pos : Pos} (hN : X.N.Nodup) (hi : X.N[i]? = some x := by rfl) (hx : Loc X.env.scope x := by first | exact Or.inl rfl | exact Or.inr rfl) (hf : X.fn x = true ∨ X.env.scope.names.lookup x = some .local := by first | exact .inl rfl | exact .inr rfl) : DG X (bName i) (.Name x pos) :=
  PG.imp (pg_name hN hi hx hf) fun v σ H Q ⟨io, M, ρ, x, ρ', hR, hE, hv, e, k⟩ => by
    cases e
    exact k _ (hE.set hv)
abbrev Bds := List D → Env → Mem → Option Env
def bNil : Bds := fun xs ρ _ => match xs with
  | [] => some ρ
  | _ => none
def bCons (b : Bd) (r : Bds) : Bds := fun xs ρ M => match xs with
  | x :: ys => match b x ρ M with
    | some ρ1 => r ys ρ1 M
    | none => none
  | [] => none
def tGs (G : Glb) (b : Bds) : TGs := fun vs σ H Q => ∃ io M ρ xs ρ', RM G io M H ∧ RE G io H ρ σ ∧ DVs G io H xs vs ∧ b xs ρ M = some ρ' ∧ ∀ σ', RE G io H ρ' σ' → Q σ' H
abbrev DGs (X : Cx) (b : Bds) (es : List Expr) : Prop := PGs X es (tGs (gX X) b)
theorem PGs.imp {es : List Expr} {t t' : TGs} (h : PGs X es t) (hi : ∀ v σ H Q, t' v σ H Q → t v σ H Q) : PGs X es t' := ⟨fun pins s σ H v u Q I r q => h.run pins s σ H v u Q I r (hi _ _ _ _ q)⟩
theorem dgs_nil : DGs X bNil [] := PGs.imp pgs_nil fun v σ H Q ⟨io, M, ρ, xs, ρ', hR, hE, hv, e, k⟩ => by
  cases xs with
  | nil => cases hv; cases e; exact ⟨rfl, k _ hE⟩
  | cons _ _ => cases e
theorem dgs_cons {b : Bd} {r : Bds} {e : Expr} {es : List Expr} (h : DG X b e) (t : DGs X r es) (hs : (assignEach (e :: es) X.env).map (·.2) = assign e X.env :: (assignEach es X.env).map (·.2) := by rfl) : DGs X (bCons b r) (e :: es) :=
  PGs.imp (pgs_cons h t hs) fun v σ H Q ⟨io, M, ρ, xs, ρ', hR, hE, hv, e, k⟩ => by
    cases xs with
    | nil => cases e
    | cons x ys =>
      obtain ⟨u, us, rfl, h1, h2⟩ := hv
      have e' : (match b x ρ M with
        | some ρ1 => r ys ρ1 M
        | none => none) = some ρ' := e
      cases eb : b x ρ M with
      | none => rw [eb] at e'; cases e'
      | some ρ1 =>
        rw [eb] at e'
        exact ⟨u, us, rfl, io, M, ρ, x, ρ1, hR, hE, h1, eb, fun σ1 hE1 => ⟨io, M, ρ1, ys, ρ', hR, hE1, h2, e', k⟩⟩
def bTup (n : Nat) (b : Bds) : Bd := fun x ρ M => match x with
  | .tup xs => if xs.length = n then b xs ρ M else none
  | _ => none
theorem dg_tup {b : Bds} {es : List Expr} {k n : Nat} {pos : Pos} (hc : X.calm = true) (h : DGs X b es) (hn : (assignEach es X.env).length = n := by rfl) (hst : (assignEach es X.env).findIdx? (·.1) = none := by rfl) : DG X (bTup n b) (.Tuple es k pos) :=
  PG.imp (pg_tup hc h hn hst) fun v σ H Q ⟨io, M, ρ, x, ρ', hR, hE, hv, e, k⟩ => by
    cases x with
    | tup xs =>
      obtain ⟨p, vs, rfl, hp, hvs⟩ := hv
      have e' : (if xs.length = n then b xs ρ M else none) = some ρ' := e
      split at e'
      · rename_i hl
        exact ⟨p, vs, rfl, hp.sq, by rw [← hvs.length]; exact hl, io, M, ρ, xs, ρ', hR, hE, hvs, e', k⟩
      · cases e'
    | _ => cases e
def bindS (o : Option Env) (M : Mem) : SR := match o with
  | some ρ => .nx ρ M
  | none => .bad
def dAsg (da : Den) (b : Bd) : DenS := fun ρ M => toS (da ρ M) ρ fun x M1 => bindS (b x ρ M1) M1
theorem ds_asg {da : Den} {b : Bd} {tg e : Expr} {pos : Pos} (ha : DE X W da e) (hg : DG X b tg) (hs : swapsWithSole [tg] e pos.line X.env = pure false := by rfl) (hw : swappedStores [tg] e X.env = pure none := by rfl)
    (h1 : (assignEach [tg] X.env).map (·.2) = [assign tg X.env] := by rfl) : DS X W (dAsg da b) (.Assign [tg] e pos) :=
  PS.imp (ps_asg ha hg hs hw h1) fun D σ H ⟨io, M, ρ, hR, hE, g⟩ => ⟨io, M, ρ, hR, hE, (GoS.of hE g).imp fun x M1 io1 H1 e1 r1 g1 v hv => by
    cases e : b x ρ M1 with
    | none => rw [e] at g1; exact g1.elim
    | some ρ' =>
      rw [e] at g1
      exact ⟨io1, M1, ρ, x, ρ', r1, hE.mono e1, hv, e, fun σ' hE' => g1.nx_ r1 hE'⟩⟩
theorem ds_set (i : Nat) {da : Den} {x : Str} {e : Expr} {pos' pos : Pos} (hN : X.N.Nodup) (ha : DE X W da e) (hi : X.N[i]? = some x := by rfl) (hx : Loc X.env.scope x := by first | exact Or.inl rfl | exact Or.inr rfl) (hs : swapsWith e (some (.Name x pos')) pos.line X.env = pure false := by rfl)
    (hf : X.fn x = true ∨ X.env.scope.names.lookup x = some .local := by first | exact .inl rfl | exact .inr rfl) : DS X W (dAsg da (bName i)) (.Assign [.Name x pos'] e pos) :=
  PS.imp (ps_set hN hi hx ha hs hf) fun D σ H ⟨io, M, ρ, hR, hE, g⟩ => ⟨io, M, ρ, hR, hE, (GoS.of hE g).imp fun x M1 io1 H1 e1 r1 g1 v hv => GoS.nx_ (W := W) (Dn := D) g1 r1 ((hE.mono e1).set hv)⟩
def dSeq (d e : DenS) : DenS := fun ρ M => match d ρ M with
  | .nx ρ1 M1 => e ρ1 M1
  | r => r
def dSkip : DenS := fun ρ M => .nx ρ M
theorem dss_nil : DSs X W dSkip [] := PSs.imp pss_nil fun D σ H ⟨io, M, ρ, hR, hE, g⟩ => g.nx_ hR hE
theorem seq_imp {d e : DenS} : ∀ Dn σ H, tS (gX X) W (dSeq d e) Dn σ H → tSeq (tS (gX X) W d) (tS (gX X) W e) Dn σ H := by
  intro Dn σ H ⟨io, M, ρ, hR, hE, g⟩
  refine ⟨io, M, ρ, hR, hE, ?_⟩
  unfold dSeq at g
  cases h : d ρ M with
  | nx ρ1 M1 =>
    rw [h] at g
    exact fun io' H' σ' e1 r1 hE1 => ⟨io', M1, ρ1, r1, hE1, GoS.later e1 g⟩
  | rt x M1 => rw [h] at g; exact g
  | bk ρ M1 => rw [h] at g; exact g
  | ct ρ M1 => rw [h] at g; exact g
  | exc C fs ρ M1 => rw [h] at g; exact g
  | bad => rw [h] at g; exact g
theorem dss_cons {d e : DenS} {st : Stmt} {r : List Stmt} (h : DS X W d st) (t : DSs X W e r) : DSs X W (dSeq d e) (st :: r) := PSs.imp (pss_cons h t) seq_imp
theorem dss_one {d : DenS} {st : Stmt} (h : DS X W d st) : DSs X W d [st] := pss_one h
def dDrop (d : Den) : DenS := fun ρ M => toS (d ρ M) ρ fun _ M1 => .nx ρ M1
theorem ds_expr {d : Den} {e : Expr} {pos : Pos} (h : DE X W d e) (hs : swapsWith e none pos.line X.env = pure false := by rfl) : DS X W (dDrop d) (.Expr e pos) :=
  PS.imp (ps_expr h hs) fun D σ H ⟨io, M, ρ, hR, hE, g⟩ => ⟨io, M, ρ, hR, hE, (GoS.of hE g).imp fun x M1 io1 H1 e1 r1 g1 v hv => g1.nx_ r1 (hE.mono e1)⟩
def dRet (d : Den) : DenS := fun ρ M => toS (d ρ M) ρ fun x M1 => .rt x M1
theorem ds_ret {d : Den} {e : Expr} {pos : Pos} (h : DE X W d e) : DS X W (dRet d) (.Return (some e) pos) :=
  PS.imp (ps_ret h) fun D σ H ⟨io, M, ρ, hR, hE, g⟩ => ⟨io, M, ρ, hR, hE, (GoS.of hE g).imp fun x M1 io1 H1 e1 r1 g1 v hv => g1 io1 H1 v Ex.refl r1 hv⟩
def dRetN : DenS := fun ρ M => .rt .non M
theorem ds_retN {pos : Pos} : DS X W dRetN (.Return none pos) := PS.imp ps_retN fun D σ H ⟨io, M, ρ, hR, hE, g⟩ => g io H .non Ex.refl hR rfl
theorem ds_pass {pos : Pos} : DS X W dSkip (.Pass pos) := PS.imp ps_pass fun D σ H ⟨io, M, ρ, hR, hE, g⟩ => g.nx_ hR hE
def dBrk : DenS := fun ρ M => .bk ρ M
def dCnt : DenS := fun ρ M => .ct ρ M
theorem ds_break {pos : Pos} : DS X W dBrk (.Break pos) := PS.imp ps_break fun D σ H ⟨io, M, ρ, hR, hE, g⟩ => g io H σ Ex.refl hR hE
theorem ds_continue {pos : Pos} : DS X W dCnt (.Continue pos) := PS.imp ps_continue fun D σ H ⟨io, M, ρ, hR, hE, g⟩ => g io H σ Ex.refl hR hE
def dIf (t : DenT) (d e : DenS) : DenS := fun ρ M => toS (t ρ M) ρ fun b M1 => if b = true then d ρ M1 else e ρ M1
theorem ds_if {t : DenT} {d e : DenS} {c : Expr} {a b : List Stmt} {pos : Pos} (hc : DT X W t c) (ha : DSs X W d a) (hb : DSs X W e b) : DS X W (dIf t d e) (.If c a b pos) :=
  PS.imp (ps_if hc ha hb) fun D σ H ⟨io, M, ρ, hR, hE, g⟩ => ⟨io, M, ρ, hR, hE, (GoS.of hE g).imp fun b M1 io1 H1 e1 r1 g1 => by
    cases b with
    | true => exact iteT ⟨io1, M1, ρ, r1, hE.mono e1, by simpa using g1⟩
    | false => exact iteF ⟨io1, M1, ρ, r1, hE.mono e1, by simpa using g1⟩⟩
def dNever : DenS := fun _ _ => .bad
/-- what is not reached -/
theorem ds_never {st : Stmt} : DS X W dNever st := ⟨fun pins s σ H D I ⟨io, M, ρ, hR, hE, g⟩ => g.elim⟩
theorem dss_never {st : List Stmt} : DSs X W dNever st := ⟨fun pins s σ H D I ⟨io, M, ρ, hR, hE, g⟩ => g.elim⟩
def dNone : Den := fun _ _ => .bad
theorem de_never {e : Expr} : DE X W dNone e := ⟨fun pins s σ H D I ⟨io, M, ρ, hR, hE, g⟩ => g.elim⟩
/-! ### x op= e -/
def dAug (i : Nat) (f : D → D → Mem → Op) (d : Den) : DenS := fun ρ M => match ρ[i]? with
  | some (some x) => toS (d ρ M) ρ fun y M1 => match f x y M1 with
    | some (z, M2) => .nx (ρ.set i (some z)) M2
    | none => .bad
  | _ => .bad
theorem ds_aug (i : Nat) {f : D → D → Mem → Op} {d : Den} {op : Operator} {r : R2} {x : Str} {e : Expr} {pos' pos : Pos} (hN : X.N.Nodup) (ho : OpR X (inplaceOp op) r) (hd : OpD X r f) (h : DE X W d e) (hi : X.N[i]? = some x := by rfl) (hx : Loc X.env.scope x := by first | exact Or.inl rfl | exact Or.inr rfl)
    (hf : X.fn x = true ∨ X.env.scope.names.lookup x = some .local := by first | exact .inl rfl | exact .inr rfl) : DS X W (dAug i f d) (.AugAssign (.Name x pos') op e pos) :=
  PS.imp (ps_aug hN hi hx h (show PIp X op r from ho) hf) fun D σ H ⟨io, M, ρ, hR, hE, g⟩ => by
    unfold dAug at g
    split at g
    · rename_i x0 ex
      obtain ⟨v, h1, h2⟩ := hE.at_ i _ ex
      refine ⟨v, h1, io, M, ρ, hR, hE, (GoS.of hE g).imp fun y M1 io1 H1 e1 r1 g1 w hw => ?_⟩
      cases ef : f x0 y M1 with
      | none => rw [ef] at g1; exact g1.elim
      | some p =>
        obtain ⟨z, M2⟩ := p
        rw [ef] at g1
        exact hd io1 M1 H1 x0 y v w _ r1 (DV.mono e1 _ _ h2) hw ⟨z, M2, ef, fun io2 H2 u e2 r2 hu => g1 io2 H2 _ e2 r2 (((hE.mono e1).mono e2).set hu)⟩
    · exact g.elim
end
end Lp
/-! LpLoop: what is walked; for, while, list comprehensions. -/
namespace Lp
open PySem PySem.Spec PyProof.Rows L2
/-- turn i in a memory: none: not served; some none: the end -/
abbrev Step := Nat → Mem → Option (Option D)
abbrev DenI := Env → Mem → R (Nat × Step)
def Sim (G : Glb) (io : List Addr) (H : Hp) (st : Step) (J : It) : Prop := ∀ (io2 : List Addr) (H2 : Hp) (M2 : Mem) (i : Nat), Ex io H io2 H2 → RM G io2 M2 H2 →
  match st i M2 with
  | none => True
  | some none => J.stop i H2
  | some (some x) => J.go i H2 ∧ ∀ v H3, J.yld i H2 v H3 → Ex io2 H2 io2 H3 ∧ RM G io2 M2 H3 ∧ DV G io2 H3 x v
def tI (G : Glb) (W : WX) (d : DenI) : TI := fun σ H Rr => ∃ io M ρ, RM G io M H ∧ RE G io H ρ σ ∧ Go G (fun c dd H' => W c dd σ H') io H (d ρ M) fun p M' io' H' => ∀ J, Sim G io' H' p.2 J → Rr J H'
abbrev DI (X : Cx) (W : WX) (d : DenI) (tg e : Expr) : Prop := PI X tg e (tI (gX X) W d)
section
variable {X : Cx} {W : WX} {tg : Expr}
theorem PI.imp {e : Expr} {t t' : TI} (h : PI X tg e t) (hi : ∀ σ H R, t' σ H R → t σ H R) : PI X tg e t' := ⟨fun pins s σ H R I q => h.run pins s σ H R I (hi _ _ _ q)⟩
theorem Sim.later {G : Glb} {io io' : List Addr} {H H' : Hp} {st : Step} {J : It} (e : Ex io H io' H') (h : Sim G io H st J) : Sim G io' H' st J := fun io2 H2 M2 i e2 r2 => h io2 H2 M2 i (e.trans e2) r2
/-! ### a list, a tuple, a text -/
def seqStep : D → Mem → Option (Nat × Step)
  | .tup xs, _ => some (xs.length + 1, fun i _ => some xs[i]?)
  | .ro xs, _ => some (xs.length + 1, fun i _ => some xs[i]?)
  | .str z, _ => some (z.cps.size + 1, fun i _ => some (z.cps[i]?.map fun c => .str ⟨#[c]⟩))
  | .ref a, M => match M[a]? with
    | some (.lst xs) => some (xs.length + 1, fun i M2 => match M2[a]? with
      | some (.lst ys) => some ys[i]?
      | _ => none)
    | _ => none
  | _, _ => none
def dSeqI (d : Den) : DenI := fun ρ M => (d ρ M).bind fun x M1 => match seqStep x M1 with
  | some p => .ok p M1
  | none => .bad
/-- what stands for the value x is walked as J -/
def SeqV (K : PySem.W.Frag) (v : V) (H : Hp) (J : It) : Prop :=
  (∃ a, v = .ref a ∧ (∃ xs, SqL K H a xs) ∧ J = Itl K a) ∨ (∃ a, v = .ref a ∧ (∃ xs, SqT K H a xs) ∧ J = Itt K a) ∨ ∃ z, v = .str z ∧ J = Its z
theorem pi_seq {e : Expr} {te : TE} (he : PE X e te) : PI X tg e (fun σ H Rr => te σ H fun v H1 => ∃ J, SeqV X.K v H1 J ∧ Rr J H1) := by
  refine ⟨fun pins s σ H R I h => ?_⟩
  refine thn (he.run pins s σ H _ I h) fun v s1 ⟨x, H1, I1, r1, q1⟩ => ?_
  obtain ⟨J, ⟨a, rfl, ⟨xs, hq⟩, rfl⟩ | ⟨a, rfl, ⟨xs, hq⟩, rfl⟩ | ⟨z, rfl, rfl⟩, q⟩ := q1
  · cases r1
    obtain ⟨its, rv, p, hz⟩ := I1.list hq
    refine wpAny_pyIter_list p.isList ?_
    refine ⟨s1.heap.objs.size, [s1.heap.objs.size], _, _, H1, rfl, I1.kept (t' := s1.toks) fun b o e => Heap.get?_push_of_some _ e, turn_list a _, ⟨_, Heap.get?_push_size _ rfl, rfl, rfl⟩, fun b hb => ?_, q⟩
    have e : b = s1.heap.objs.size := by simpa using hb
    subst e
    exact I1.fpOk (Nat.le_refl _) (I1.hok.fresh (Nat.le_refl _))
  · cases r1
    obtain ⟨its, rv, p, hz⟩ := I1.tuple hq
    refine wpAny_pyIter_tuple (show s1.heap.IsTuple a its.toArray from p) ?_
    refine ⟨s1.heap.objs.size, [s1.heap.objs.size], _, _, H1, rfl, I1.kept (t' := s1.toks) fun b o e => Heap.get?_push_of_some _ e, turn_tuple a _, ⟨_, Heap.get?_push_size _ rfl, rfl, rfl⟩, fun b hb => ?_, q⟩
    have e : b = s1.heap.objs.size := by simpa using hb
    subst e
    exact I1.fpOk (Nat.le_refl _) (I1.hok.fresh (Nat.le_refl _))
  · obtain ⟨t, rfl⟩ := r1
    cases ha : z.cps.all (· < 128)
    · exact wpAny_pyIter_wide ha (pi_one (tk := s1.toks) I1 _ (turn_str _ z t "str_iterator" (.inr rfl)) ⟨_, Heap.get?_push_size _ rfl, rfl, rfl⟩ q)
    · exact wpAny_pyIter_ascii ha (pi_one (tk := s1.toks) I1 _ (turn_str _ z t "str_ascii_iterator" (.inl rfl)) ⟨_, Heap.get?_push_size _ rfl, rfl, rfl⟩ q)
theorem seqStep_sim {G : Glb} {io : List Addr} {M : Mem} {H : Hp} {x : D} {v : V} {p : Nat × Step} (hR : RM G io M H) (hx : DV G io H x v) (h : seqStep x M = some p) : ∃ J, SeqV G.K v H J ∧ Sim G io H p.2 J := by
  obtain ⟨mg, K⟩ := G
  unfold seqStep at h
  split at h
  · rename_i xs
    cases h
    obtain ⟨a, vs, rfl, ha, hv⟩ := hx
    refine ⟨Itt K a, .inr (.inl ⟨a, rfl, ⟨vs, ha.sq⟩, rfl⟩), fun io2 H2 M2 i e2 r2 => ?_⟩
    have hv2 := DVs.mono e2 _ _ hv
    have ha2 : SqT K H2 a vs := ha H2 (fun _ z => e2.tups _ _ z) fun _ _ z => e2.frzs _ _ _ z
    show match (some xs[i]? : Option (Option D)) with
      | none => True
      | some none => _
      | some (some x) => _
    cases e : xs[i]? with
    | none => exact ⟨vs, ha2, by rw [← hv.length]; exact List.getElem?_eq_none_iff.mp e⟩
    | some d =>
      obtain ⟨u, h1, h2⟩ := hv2.get e
      refine ⟨⟨vs, u, ha2, h1⟩, fun w H3 ⟨e3, hw⟩ => ?_⟩
      subst e3
      have e4 := hw _ ha2
      rw [h1] at e4
      cases e4
      exact ⟨Ex.refl, r2, h2⟩
  · rename_i xs
    cases h
    obtain ⟨a, vs, rfl, ha, hv⟩ := hx
    refine ⟨Itl K a, .inl ⟨a, rfl, ⟨vs, ha.sq⟩, rfl⟩, fun io2 H2 M2 i e2 r2 => ?_⟩
    have hv2 := DVs.mono e2 _ _ hv
    have ha2 : SqL K H2 a vs := ha H2 fun _ _ z => e2.frzs _ _ _ z
    show match (some xs[i]? : Option (Option D)) with
      | none => True
      | some none => _
      | some (some x) => _
    cases e : xs[i]? with
    | none => exact ⟨vs, ha2, by rw [← hv.length]; exact List.getElem?_eq_none_iff.mp e⟩
    | some d =>
      obtain ⟨u, h1, h2⟩ := hv2.get e
      refine ⟨⟨vs, u, ha2, h1⟩, fun w H3 ⟨e3, hw⟩ => ?_⟩
      subst e3
      have e4 := hw _ ha2
      rw [h1] at e4
      cases e4
      exact ⟨Ex.refl, r2, h2⟩
  · rename_i z
    cases h
    cases hx
    refine ⟨Its z, .inr (.inr ⟨z, rfl, rfl⟩), fun io2 H2 M2 i e2 r2 => ?_⟩
    show match (some (z.cps[i]?.map fun c => (D.str ⟨#[c]⟩)) : Option (Option D)) with
      | none => True
      | some none => _
      | some (some x) => _
    cases e : z.cps[i]? with
    | none => exact (Array.getElem?_eq_none_iff.mp e : z.cps.size ≤ i)
    | some c =>
      refine ⟨(Array.getElem?_eq_some_iff.mp e).1, fun w H3 ⟨e3, c', hc, hw⟩ => ?_⟩
      subst e3
      rw [e] at hc
      cases hc
      exact ⟨Ex.refl, r2, hw⟩
  · rename_i a
    obtain ⟨q, hq, rfl⟩ := hx
    split at h
    · rename_i xs hm
      cases h
      obtain ⟨vs, h1, h2⟩ := hR.obj _ _ _ hq hm
      refine ⟨Itl K q, .inl ⟨q, rfl, ⟨vs, SqL.of h1⟩, rfl⟩, fun io2 H2 M2 i e2 r2 => ?_⟩
      have hq2 := e2.at hq
      show match (match M2[a]? with
        | some (.lst ys) => some ys[i]?
        | _ => none : Option (Option D)) with
        | none => True
        | some none => _
        | some (some x) => _
      cases em : M2[a]? with
      | none => trivial
      | some o =>
        cases o with
        | lst ys =>
          obtain ⟨ws, k1, k2⟩ := r2.obj _ _ _ hq2 em
          have ha2 : SqL K H2 q ws := SqL.of k1
          show match (some ys[i]? : Option (Option D)) with
            | none => True
            | some none => _
            | some (some x) => _
          cases e : ys[i]? with
          | none => exact ⟨ws, ha2, by rw [← k2.length]; exact List.getElem?_eq_none_iff.mp e⟩
          | some d =>
            obtain ⟨u, u1, u2⟩ := k2.get e
            refine ⟨⟨ws, u, ha2, u1⟩, fun w H3 ⟨e3, hw⟩ => ?_⟩
            subst e3
            have e4 := hw _ ha2
            rw [u1] at e4
            cases e4
            exact ⟨Ex.refl, r2, u2⟩
        | ins C fs => trivial
    · cases h
  · cases h
theorem di_seq {d : Den} {e : Expr} (h : DE X W d e) : DI X W (dSeqI d) tg e :=
  PI.imp (pi_seq h) fun σ H R ⟨io, M, ρ, hR, hE, g⟩ => ⟨io, M, ρ, hR, hE, g.bind.imp fun x M1 io1 H1 e1 r1 g1 v hv => by
    cases es : seqStep x M1 with
    | none => rw [es] at g1; exact g1.elim
    | some p =>
      rw [es] at g1
      obtain ⟨J, h1, h2⟩ := seqStep_sim r1 hv es
      exact ⟨J, h1, Go.ok g1 r1 J h2⟩⟩
/-! ### ranges -/
def rangeStep (lo : Int) (n : Nat) : Nat × Step := (n + 1, fun i _ => some (if i < n then some (.int (lo + i)) else none))
theorem range_sim {G : Glb} {io : List Addr} {H : Hp} {lo : Int} {n : Nat} : Sim G io H (rangeStep lo n).2 (Itr lo n) := fun io2 H2 M2 i e2 r2 => by
  show match (some (if i < n then some (D.int (lo + i)) else none) : Option (Option D)) with
    | none => True
    | some none => _
    | some (some x) => _
  by_cases hi : i < n
  · rw [if_pos hi]
    refine ⟨hi, fun w H3 ⟨e3, hw⟩ => ?_⟩
    subst e3
    exact ⟨Ex.refl, r2, hw⟩
  · rw [if_neg hi]
    exact Nat.le_of_not_lt hi
abbrev P62 : Int := 4611686018427387904
def dRange1 (d : DenA) : DenI := fun ρ M => (d ρ M).bind fun xs M1 => match xs with
  | [.int j] => if -P62 ≤ j ∧ j < P62 then .ok (rangeStep 0 j.toNat) M1 else .bad
  | _ => .bad
def dRange2 (d : DenA) : DenI := fun ρ M => (d ρ M).bind fun xs M1 => match xs with
  | [.int i, .int j] => if -P62 ≤ i ∧ i < P62 ∧ -P62 ≤ j ∧ j < P62 then .ok (rangeStep i (j - i).toNat) M1 else .bad
  | _ => .bad
theorem di_range1 {d : DenA} {a : Expr} {p pos : Pos} (h : DA X W d [a]) (hm : X.mg "range" = none) (hg : Gl X "range" := by rfl) (hs : starEach [a] X.env = [(false, eval a X.env)] := by rfl) : DI X W (dRange1 d) tg (.Call (.Name "range" p) [a] [] pos) :=
  PI.imp (pi_range1 hg hm h hs) fun σ H R ⟨io, M, ρ, hR, hE, g⟩ => ⟨io, M, ρ, hR, hE, g.bind.imp fun xs M1 io1 H1 e1 r1 g1 vs hv => by
    split at g1
    · split at g1
      · rename_i j hj
        obtain ⟨v, r, rfl, h1, h2⟩ := hv
        cases h1
        cases h2
        exact ⟨j, rfl, hj.1, hj.2, Go.ok g1 r1 _ range_sim⟩
      · exact g1.elim
    · exact g1.elim⟩
theorem di_range2 {d : DenA} {a b : Expr} {p pos : Pos} (h : DA X W d [a, b]) (hm : X.mg "range" = none) (hg : Gl X "range" := by rfl) (hs : starEach [a, b] X.env = [(false, eval a X.env), (false, eval b X.env)] := by rfl) (hs2 : starEach [b] X.env = [(false, eval b X.env)] := by rfl) : DI X W (dRange2 d) tg (.Call (.Name "range" p) [a, b] [] pos) :=
  PI.imp (pi_range2 hg hm h hs hs2) fun σ H R ⟨io, M, ρ, hR, hE, g⟩ => ⟨io, M, ρ, hR, hE, g.bind.imp fun xs M1 io1 H1 e1 r1 g1 vs hv => by
    split at g1
    · split at g1
      · rename_i i j hj
        obtain ⟨v, r, rfl, h1, v2, r2, rfl, h3, h4⟩ := hv
        cases h1
        cases h3
        cases h4
        exact ⟨i, j, rfl, hj, Go.ok g1 r1 _ range_sim⟩
      · exact g1.elim
    · exact g1.elim⟩

/-! ### for -/
def forIt (st : Step) (b : Bd) (body : DenS) : Nat → Nat → Env → Mem → SR
  | 0, _, _, _ => .bad
  | n + 1, i, ρ, M => match st i M with
    | none => .bad
    | some none => .nx ρ M
    | some (some x) => match b x ρ M with
      | none => .bad
      | some ρ1 => match body ρ1 M with
        | .nx ρ2 M2 => forIt st b body n (i + 1) ρ2 M2
        | .ct ρ2 M2 => forIt st b body n (i + 1) ρ2 M2
        | .bk ρ2 M2 => .nx ρ2 M2
        | r => r
def dFor (d : DenI) (b : Bd) (body : DenS) : DenS := fun ρ M => toS (d ρ M) ρ fun p M1 => forIt p.2 b body p.1 0 ρ M1
/-- the loop's turn, by the result of its body -/
theorem ds_for {d : DenI} {b : Bd} {body : DenS} {iter : Expr} {sts : List Stmt} {pos : Pos} (hp : PassesOwn (model X.prog X.w) X.A X.env X.xe) (hc : X.calm = true) (hi : DI X W d tg iter) (hg : DG X b tg) (hb : DSs X W body sts)
    (hs : ∀ x, foldedSetIterable iter X.env x = pure x := by intro _; rfl) : DS X W (dFor d b body) (.For tg iter sts [] pos) :=
  PS.imp (ps_for hp hc hi hg hb hs) fun Dn σ H ⟨io, M, ρ, hR, hE, g⟩ => ⟨io, M, ρ, hR, hE, (GoS.of hE g).imp fun p M1 io1 H1 e1 r1 g1 J hJ => by
    refine ⟨fun i m σ2 H2 => ∃ io2 M2 ρ2, Ex io1 H1 io2 H2 ∧ RM (gX X) io2 M2 H2 ∧ RE (gX X) io2 H2 ρ2 σ2 ∧ GoS (gX X) W io2 H2 (forIt p.2 b body m i ρ2 M2) Dn, ⟨p.1, io1, M1, ρ, Ex.refl, r1, hE.mono e1, g1⟩, ?_⟩
    rintro i m σ2 H2 ⟨io2, M2, ρ2, e2, r2, hE2, g2⟩
    cases m with
    | zero => exact g2.elim
    | succ m =>
      have s2 := hJ io2 H2 M2 i e2 r2
      unfold forIt at g2
      cases es : p.2 i M2 with
      | none => rw [es] at g2; exact g2.elim
      | some o =>
        rw [es] at g2 s2
        cases o with
        | none => exact .inl ⟨s2, g2.nx_ r2 hE2⟩
        | some x =>
          obtain ⟨go, yl⟩ := s2
          refine .inr ⟨go, fun σ3 H3 => ∃ io3 M3 ρ3, Ex io1 H1 io3 H3 ∧ RM (gX X) io3 M3 H3 ∧ RE (gX X) io3 H3 ρ3 σ3 ∧ GoS (gX X) W io3 H3 (forIt p.2 b body m (i + 1) ρ3 M3) Dn, fun σ3 H3 w => ⟨m, Nat.lt_succ_self m, w⟩, fun v H3 hy => ?_⟩
          obtain ⟨e3, r3, hx⟩ := yl v H3 hy
          cases eb : b x ρ2 M2 with
          | none => simp only [eb] at g2; exact g2.elim
          | some ρ1 =>
            simp only [eb] at g2
            refine ⟨io2, M2, ρ2, x, ρ1, r3, hE2.mono e3, hx, eb, fun σ4 hE4 => ⟨io2, M2, ρ1, r3, hE4, ?_⟩⟩
            have g3 := GoS.later e3 g2
            cases ec : body ρ1 M2 with
            | nx ρ4 M4 =>
              simp only [ec] at g3
              exact fun io5 H5 σ5 e5 r5 hE5 => ⟨io5, M4, ρ4, (e2.trans e3).trans e5, r5, hE5, GoS.later e5 g3⟩
            | ct ρ4 M4 =>
              simp only [ec] at g3
              exact fun io5 H5 σ5 e5 r5 hE5 => ⟨io5, M4, ρ4, (e2.trans e3).trans e5, r5, hE5, GoS.later e5 g3⟩
            | bk ρ4 M4 => simp only [ec] at g3; exact g3
            | rt v4 M4 => simp only [ec] at g3; exact g3
            | exc C fs ρ4 M4 => simp only [ec] at g3; exact g3
            | bad => simp only [ec] at g3; exact g3⟩

/-! ### while -/
def whIt (t : DenT) (body : DenS) : Nat → Env → Mem → SR
  | 0, _, _ => .bad
  | n + 1, ρ, M => toS (t ρ M) ρ fun b M1 => if b = true then (match body ρ M1 with
      | .nx ρ2 M2 => whIt t body n ρ2 M2
      | .ct ρ2 M2 => whIt t body n ρ2 M2
      | .bk ρ2 M2 => .nx ρ2 M2
      | r => r) else .nx ρ M1
/-- turns that a while may take -/
abbrev WN : Nat := 1000000000
def dWhile (t : DenT) (body : DenS) : DenS := fun ρ M => whIt t body WN ρ M
theorem ds_while {t : DenT} {body : DenS} {c : Expr} {sts : List Stmt} {pos : Pos} (hp : PassesOwn (model X.prog X.w) X.A X.env X.xe) (hc : DT X W t c) (hb : DSs X W body sts) : DS X W (dWhile t body) (.While c sts [] pos) :=
  PS.imp (ps_while hp hc hb) fun Dn σ H ⟨io, M, ρ, hR, hE, g⟩ => by
    refine ⟨fun m σ2 H2 => ∃ io2 M2 ρ2, RM (gX X) io2 M2 H2 ∧ RE (gX X) io2 H2 ρ2 σ2 ∧ GoS (gX X) W io2 H2 (whIt t body m ρ2 M2) Dn, ⟨WN, io, M, ρ, hR, hE, g⟩, ?_⟩
    rintro m σ2 H2 ⟨io2, M2, ρ2, r2, hE2, g2⟩
    cases m with
    | zero => exact g2.elim
    | succ m =>
      unfold whIt at g2
      refine ⟨io2, M2, ρ2, r2, hE2, (GoS.of hE2 g2).imp fun b M3 io3 H3 e3 r3 g3 => ?_⟩
      cases b with
      | false => exact iteF (GoS.nx_ (W := W) (Dn := Dn) (by simpa using g3) r3 (hE2.mono e3))
      | true =>
        refine iteT ⟨fun σ4 H4 => ∃ io4 M4 ρ4, RM (gX X) io4 M4 H4 ∧ RE (gX X) io4 H4 ρ4 σ4 ∧ GoS (gX X) W io4 H4 (whIt t body m ρ4 M4) Dn, fun σ4 H4 w => ⟨m, Nat.lt_succ_self m, w⟩, io3, M3, ρ2, r3, hE2.mono e3, ?_⟩
        rw [if_pos rfl] at g3
        cases ec : body ρ2 M3 with
        | nx ρ4 M4 =>
          simp only [ec] at g3
          exact fun io5 H5 σ5 e5 r5 hE5 => ⟨io5, M4, ρ4, r5, hE5, GoS.later e5 g3⟩
        | ct ρ4 M4 =>
          simp only [ec] at g3
          exact fun io5 H5 σ5 e5 r5 hE5 => ⟨io5, M4, ρ4, r5, hE5, GoS.later e5 g3⟩
        | bk ρ4 M4 => simp only [ec] at g3; exact g3
        | rt v4 M4 => simp only [ec] at g3; exact g3
        | exc C fs ρ4 M4 => simp only [ec] at g3; exact g3
        | bad => simp only [ec] at g3; exact g3

/-! ### list comprehensions -/
def noX {α : Type} : R α → R α
  | .exc _ _ _ => .bad
  | r => r
theorem Go.noX_ {α : Type} {G : Glb} {W W' : Value → Option Addr → Hp → Prop} {io : List Addr} {H : Hp} {r : R α} {P : α → Mem → List Addr → Hp → Prop} (h : Go G W io H (noX r) P) : Go G W' io H r P := by
  cases r with
  | ok a M => exact h
  | exc C fs M => exact h.elim
  | bad => exact h
def wipeE (ρ : Env) : List Nat → Env
  | [] => ρ
  | v :: vs => (wipeE ρ vs).set v none
theorem RE.wipe {G : Glb} {io : List Addr} {H : Hp} {ρ : Env} {σ : St} (r : RE G io H ρ σ) : ∀ vs : List Nat, RE G io H (wipeE ρ vs) (L2.wipe σ vs)
  | [] => r
  | v :: vs => by
    have ih := RE.wipe r vs
    show RE G io H ((wipeE ρ vs).set v none) ((L2.wipe σ vs).set v none)
    refine ⟨by simp [ih.len], fun i d e => ?_⟩
    by_cases hi : v = i
    · subst hi
      by_cases hv : v < (wipeE ρ vs).length
      · rw [List.getElem?_set_self hv] at e
        cases e
      · rw [List.getElem?_eq_none (by simpa using hv)] at e
        cases e
    · rw [List.getElem?_set_ne hi] at e
      rw [List.getElem?_set_ne hi]
      exact ih.at_ i d e
/-- a target that stores at the slots vs alone -/
def tGw (G : Glb) (vs : List Nat) (b : Bd) : TG := fun v σ H Q => ∃ io M ρ x ρ', RM G io M H ∧ RE G io H ρ σ ∧ DV G io H x v ∧ b x ρ M = some ρ' ∧ ∀ σ', RE G io H ρ' σ' → L2.wipe σ' vs = L2.wipe σ vs → Q σ' H
abbrev DGw (X : Cx) (vs : List Nat) (b : Bd) (e : Expr) : Prop := PG X e (tGw (gX X) vs b)
def tGsw (G : Glb) (vs : List Nat) (b : Bds) : TGs := fun us σ H Q => ∃ io M ρ xs ρ', RM G io M H ∧ RE G io H ρ σ ∧ DVs G io H xs us ∧ b xs ρ M = some ρ' ∧ ∀ σ', RE G io H ρ' σ' → L2.wipe σ' vs = L2.wipe σ vs → Q σ' H
abbrev DGsw (X : Cx) (vs : List Nat) (b : Bds) (es : List Expr) : Prop := PGs X es (tGsw (gX X) vs b)
theorem wipe_at : ∀ (vs : List Nat) (σ : St) (i : Nat), i ∈ vs → i < σ.length → (L2.wipe σ vs)[i]? = some none
  | v :: vs, σ, i, h, hl => by
    show ((L2.wipe σ vs).set v none)[i]? = some none
    by_cases hv : v = i
    · subst hv
      exact List.getElem?_set_self (by rw [L2.wipe_length]; exact hl)
    · rw [List.getElem?_set_ne hv]
      exact wipe_at vs σ i ((List.mem_cons.mp h).resolve_left fun z => hv z.symm) hl
theorem wipe_out : ∀ (vs : List Nat) (σ : St) (i : Nat), i ∉ vs → (L2.wipe σ vs)[i]? = σ[i]?
  | [], _, _, _ => rfl
  | v :: vs, σ, i, h => by
    rw [List.mem_cons, not_or] at h
    show ((L2.wipe σ vs).set v none)[i]? = σ[i]?
    rw [List.getElem?_set_ne (Ne.symm h.1)]
    exact wipe_out vs σ i h.2
theorem L2_wipe_wipe {σ : St} {vs : List Nat} : L2.wipe (L2.wipe σ vs) vs = L2.wipe σ vs := by
  apply List.ext_getElem?
  intro i
  by_cases hi : i ∈ vs
  · by_cases hl : i < σ.length
    · rw [wipe_at vs _ i hi (by rw [L2.wipe_length]; exact hl), wipe_at vs σ i hi hl]
    · rw [List.getElem?_eq_none (by rw [L2.wipe_length, L2.wipe_length]; omega), List.getElem?_eq_none (by rw [L2.wipe_length]; omega)]
  · rw [wipe_out vs _ i hi]
theorem wipe_set {i : Nat} {v : Option V} : ∀ {vs : List Nat} {σ : St}, i ∈ vs → L2.wipe (σ.set i v) vs = L2.wipe σ vs
  | j :: vs, σ, h => by
    show (L2.wipe (σ.set i v) vs).set j none = (L2.wipe σ vs).set j none
    by_cases hm : i ∈ vs
    · rw [wipe_set hm]
    · have hj : i = j := by
        rcases List.mem_cons.mp h with h | h
        · exact h
        · exact absurd h hm
      subst hj
      have key : ∀ (ws : List Nat) (τ : St), i ∉ ws → L2.wipe (τ.set i v) ws = (L2.wipe τ ws).set i v := by
        intro ws
        induction ws with
        | nil => intro τ _; rfl
        | cons w ws ih =>
          intro τ hn
          rw [List.mem_cons, not_or] at hn
          show (L2.wipe (τ.set i v) ws).set w none = ((L2.wipe τ ws).set w none).set i v
          rw [ih τ hn.2, List.set_comm _ _ hn.1]
      rw [key vs σ hm, List.set_set]
theorem dgw_name (i : Nat) {vs : List Nat} {x : Str} {pos : Pos} (hN : X.N.Nodup) (hv : i ∈ vs := by decide) (hi : X.N[i]? = some x := by rfl) (hx : Loc X.env.scope x := by first | exact Or.inl rfl | exact Or.inr rfl) (hf : X.fn x = true ∨ X.env.scope.names.lookup x = some .local := by first | exact .inl rfl | exact .inr rfl) : DGw X vs (bName i) (.Name x pos) :=
  PG.imp (pg_name hN hi hx hf) fun v σ H Q ⟨io, M, ρ, x, ρ', hR, hE, hv2, e, k⟩ => by
    cases e
    exact k _ (hE.set hv2) (wipe_set hv)
theorem dgsw_nil {vs : List Nat} : DGsw X vs bNil [] := PGs.imp pgs_nil fun v σ H Q ⟨io, M, ρ, xs, ρ', hR, hE, hv, e, k⟩ => by
  cases xs with
  | nil => cases hv; cases e; exact ⟨rfl, k _ hE rfl⟩
  | cons _ _ => cases e
theorem dgsw_cons {vs : List Nat} {b : Bd} {r : Bds} {e : Expr} {es : List Expr} (h : DGw X vs b e) (t : DGsw X vs r es) (hs : (assignEach (e :: es) X.env).map (·.2) = assign e X.env :: (assignEach es X.env).map (·.2) := by rfl) : DGsw X vs (bCons b r) (e :: es) :=
  PGs.imp (pgs_cons h t hs) fun v σ H Q ⟨io, M, ρ, xs, ρ', hR, hE, hv, e, k⟩ => by
    cases xs with
    | nil => cases e
    | cons x ys =>
      obtain ⟨u, us, rfl, h1, h2⟩ := hv
      have e' : (match b x ρ M with
        | some ρ1 => r ys ρ1 M
        | none => none) = some ρ' := e
      cases eb : b x ρ M with
      | none => rw [eb] at e'; cases e'
      | some ρ1 =>
        rw [eb] at e'
        exact ⟨u, us, rfl, io, M, ρ, x, ρ1, hR, hE, h1, eb, fun σ1 hE1 w1 => ⟨io, M, ρ1, ys, ρ', hR, hE1, h2, e', fun σ2 hE2 w2 => k σ2 hE2 (w2.trans w1)⟩⟩
theorem dgw_tup {vs : List Nat} {b : Bds} {es : List Expr} {k n : Nat} {pos : Pos} (hc : X.calm = true) (h : DGsw X vs b es) (hn : (assignEach es X.env).length = n := by rfl) (hst : (assignEach es X.env).findIdx? (·.1) = none := by rfl) : DGw X vs (bTup n b) (.Tuple es k pos) :=
  PG.imp (pg_tup hc h hn hst) fun v σ H Q ⟨io, M, ρ, x, ρ', hR, hE, hv, e, k⟩ => by
    cases x with
    | tup xs =>
      obtain ⟨p, us, rfl, hp, hvs⟩ := hv
      have e' : (if xs.length = n then b xs ρ M else none) = some ρ' := e
      split at e'
      · rename_i hl
        exact ⟨p, us, rfl, hp.sq, by rw [← hvs.length]; exact hl, io, M, ρ, xs, ρ', hR, hE, hvs, e', k⟩
      · cases e'
    | _ => cases e
/-- nothing leaves a comprehension's block -/
abbrev W0 : WX := fun _ _ _ _ => False
def lcIt (st : Step) (b : Bd) (t : DenT) (e : Den) (l : Nat) : Nat → Nat → Env → Mem → R D
  | 0, _, _, _ => .bad
  | n + 1, i, ρ, M => match st i M with
    | none => .bad
    | some none => .ok (.ref l) M
    | some (some x) => match b x ρ M with
      | none => .bad
      | some ρ1 => (noX (t ρ1 M)).bind fun ok M1 => if ok = true then (noX (e ρ1 M1)).bind fun y M2 => (match M2[l]? with
          | some (.lst acc) => if acc.length < SZ then lcIt st b t e l n (i + 1) ρ (M2.set l (.lst (acc ++ [y]))) else .bad
          | _ => .bad)
        else lcIt st b t e l n (i + 1) ρ M1
def dLc (d : DenI) (b : Bd) (t : DenT) (e : Den) (vs : List Nat) : Den := fun ρ M => (d ρ M).bind fun p M1 => lcIt p.2 b t e M1.length p.1 0 (wipeE ρ vs) (M1 ++ [.lst []])
theorem lc_imp {d : DenI} {b : Bd} {t : DenT} {e : Den} {vs : List Nat} : ∀ σ H Q, tE (gX X) W (dLc d b t e vs) σ H Q → tLc (tI (gX X) W d) (tGw (gX X) vs b) (tT (gX X) W0 t) (tE (gX X) W0 e) vs σ H Q := by
  intro σ H Q ⟨io, M, ρ, hR, hE, g⟩
  refine ⟨io, M, ρ, hR, hE, g.bind.imp fun p M1 io1 H1 e1 r1 g1 J hJ L hL => ?_⟩
  have hEw : RE (gX X) io1 H1 (wipeE ρ vs) (L2.wipe σ vs) := (hE.mono e1).wipe vs
  have eL : Ex io1 H1 (io1 ++ [L]) (upd H1 L (.lst [])) := ex_new hL
  have rL : RM (gX X) (io1 ++ [L]) (M1 ++ [.lst []]) (upd H1 L (.lst [])) := r1.new hL ⟨[], upd_same, DVs.nil⟩
  have hLi : (io1 ++ [L])[M1.length]? = some L := by rw [← r1.len]; exact List.getElem?_concat_length
  refine ⟨fun i m H2 => ∃ io2 M2, Ex (io1 ++ [L]) (upd H1 L (.lst [])) io2 H2 ∧ RM (gX X) io2 M2 H2 ∧ Go (gX X) (fun c dd H' => W c dd σ H') io2 H2 (lcIt p.2 b t e M1.length m i (wipeE ρ vs) M2) fun x M' io' H' => ∀ v, DV (gX X) io' H' x v → Q v H',
    ⟨p.1, io1 ++ [L], M1 ++ [.lst []], Ex.refl, rL, Go.later eL g1⟩, ?_⟩
  rintro i m H2 ⟨io2, M2, e2, r2, g2⟩
  have hL2 : io2[M1.length]? = some L := e2.at hLi
  cases m with
  | zero => exact g2.elim
  | succ m =>
    have s2 := hJ io2 H2 M2 i (eL.trans e2) r2
    unfold lcIt at g2
    cases es : p.2 i M2 with
    | none => rw [es] at g2; exact g2.elim
    | some o =>
      rw [es] at g2 s2
      cases o with
      | none => exact .inl ⟨s2, Go.ok g2 r2 _ ⟨L, hL2, rfl⟩⟩
      | some x =>
        obtain ⟨go, yl⟩ := s2
        refine .inr ⟨go, fun H3 => ∃ io3 M3, Ex (io1 ++ [L]) (upd H1 L (.lst [])) io3 H3 ∧ RM (gX X) io3 M3 H3 ∧ Go (gX X) (fun c dd H' => W c dd σ H') io3 H3 (lcIt p.2 b t e M1.length m (i + 1) (wipeE ρ vs) M3) fun x M' io' H' => ∀ v, DV (gX X) io' H' x v → Q v H',
          fun H3 w => ⟨m, Nat.lt_succ_self m, w⟩, fun v H3 hy => ?_⟩
        obtain ⟨e3, r3, hx⟩ := yl v H3 hy
        cases eb : b x (wipeE ρ vs) M2 with
        | none => simp only [eb] at g2; exact g2.elim
        | some ρ1 =>
          simp only [eb] at g2
          have g3 := Go.later e3 g2
          refine ⟨io2, M2, _, x, ρ1, r3, (hEw.mono (eL.trans e2)).mono e3, hx, eb, fun σ4 hE4 hw => ⟨?_, io2, M2, ρ1, r3, hE4, (Go.noX_ (Go.bind g3)).imp fun ok M4 io4 H4 e4 r4 g4 => ?_⟩⟩
          · rw [hw]
            exact L2_wipe_wipe
          · cases ok with
            | false => exact iteF ⟨io4, M4, (e2.trans e3).trans e4, r4, by simpa using g4⟩
            | true =>
              rw [if_pos rfl] at g4
              refine iteT ⟨io4, M4, ρ1, r4, hE4.mono e4, (Go.noX_ (Go.bind g4)).imp fun y M5 io5 H5 e5 r5 g5 u hu => ?_⟩
              have e25 := (e3.trans e4).trans e5
              have hL5 : io5[M1.length]? = some L := e25.at hL2
              split at g5
              · rename_i acc hacc
                split at g5
                · rename_i hz
                  obtain ⟨us, h1, h2⟩ := r5.obj _ _ _ hL5 hacc
                  have ex := ex_set (io := io5) (o := .lst (us ++ [u])) h1 mt_lst
                  have ho : OR (gX X) io5 (upd H5 L (.lst (us ++ [u]))) L (.lst (acc ++ [y])) := ⟨_, upd_same, DVs.append (DVs.mono ex _ _ h2) ⟨u, [], rfl, DV.mono ex _ _ hu, rfl⟩⟩
                  exact ⟨us, h1, by rw [← sz_eq, ← h2.length]; exact hz, io5, _, (e2.trans e25).trans ex, r5.set hL5 ho, Go.later ex g5⟩
                · exact g5.elim
              · exact g5.elim
abbrev DTs (X : Cx) (W : WX) (t : DenT) (ifs : List Expr) : Prop := PTs X ifs (tT (gX X) W t)
theorem PTs.imp {ifs : List Expr} {t t' : TT} (h : PTs X ifs t) (hi : ∀ σ H Q, t' σ H Q → t σ H Q) : PTs X ifs t' := ⟨fun pins s σ H Q I q => h.run pins s σ H Q I (hi _ _ _ q)⟩
def dYes : DenT := fun _ M => .ok true M
theorem dts_nil : DTs X W dYes [] := PTs.imp pts_nil fun σ H Q ⟨io, M, ρ, hR, hE, g⟩ => Go.ok g hR
theorem dts_one {t : DenT} {c : Expr} (h : DT X W t c) : DTs X W t [c] := pts_one h
/-- a comprehension's block within X -/
abbrev Blk (X : Cx) (scope : Scope) (s : Shared) (H : Hp) (C : Addr) (cl : List (Str × Addr)) (fp : List Addr) : Cx := X.blk s H scope (compEnvC scope cl C X.env) fp
theorem de_lc {d : DenI} {b : Bd} {t : DenT} {e : Den} {elt iter : Expr} {ifs : List Expr} {scope : Scope} (own : List (Str × Nat)) {pos : Pos} (hc : X.calm = true) (hN : X.N.Nodup) (hi : DI X W d tg iter) (ok : blkC X.N X.env.scope scope own = true)
    (hg : ∀ (s : Shared) (H : Hp) (C : Addr) (cl : List (Str × Addr)) (fp : List Addr), DGw (Blk X scope s H C cl fp) (own.map (·.2)) b tg)
    (ht : ∀ (s : Shared) (H : Hp) (C : Addr) (cl : List (Str × Addr)) (fp : List Addr), DTs (Blk X scope s H C cl fp) W0 t ifs)
    (he : ∀ (s : Shared) (H : Hp) (C : Addr) (cl : List (Str × Addr)) (fp : List Addr), DE (Blk X scope s H C cl fp) W0 e elt) (hs : ∀ x, foldedSetIterable iter X.env x = pure x := by intro _; rfl) :
    DE X W (dLc d b t e (own.map (·.2))) (.ListComp elt [⟨tg, iter, ifs, 0⟩] scope pos) := PE.imp (pe_lc hc hN hi (blkOk_by ok) hg ht he hs) lc_imp
/-- y = [..] on one line, y a local -/
theorem ds_setLc (i : Nat) {d : DenI} {b : Bd} {t : DenT} {e : Den} {y : Str} {py : Pos} {elt iter : Expr} {ifs : List Expr} {scope : Scope} (own : List (Str × Nat)) {pos spos : Pos} (hc : X.calm = true) (hN : X.N.Nodup) (hi : DI X W d tg iter) (ok : blkC X.N X.env.scope scope own = true)
    (hg : ∀ (s : Shared) (H : Hp) (C : Addr) (cl : List (Str × Addr)) (fp : List Addr), DGw (Blk X scope s H C cl fp) (own.map (·.2)) b tg)
    (ht : ∀ (s : Shared) (H : Hp) (C : Addr) (cl : List (Str × Addr)) (fp : List Addr), DTs (Blk X scope s H C cl fp) W0 t ifs)
    (he : ∀ (s : Shared) (H : Hp) (C : Addr) (cl : List (Str × Addr)) (fp : List Addr), DE (Blk X scope s H C cl fp) W0 e elt)
    (hsw : swapsWith (.ListComp elt [⟨tg, iter, ifs, 0⟩] scope pos) (some (.Name y py)) spos.line X.env = pure true)
    (hy : X.N[i]? = some y := by rfl) (hyl : X.env.scope.names.lookup y = some .local := by rfl) (hs : ∀ x, foldedSetIterable iter X.env x = pure x := by intro _; rfl) :
    DS X W (dAsg (dLc d b t e (own.map (·.2))) (bName i)) (.Assign [.Name y py] (.ListComp elt [⟨tg, iter, ifs, 0⟩] scope pos) spos) :=
  PS.imp (ps_setLc hc hN hy hyl hsw hi (blkOk_by ok) hg ht he hs) fun Dn σ H ⟨io, M, ρ, hR, hE, g⟩ => lc_imp σ H _ ⟨io, M, ρ, hR, hE, (GoS.of hE g).imp fun x M1 io1 H1 e1 r1 g1 v hv => GoS.nx_ (W := W) (Dn := Dn) g1 r1 ((hE.mono e1).set hv)⟩
end
end Lp
/-! LpFn: defs and their calls; built-ins by values; methods of lists. -/
namespace Lp
open PySem PySem.Spec PyProof.Rows L2
/-- what a def computes: of its arguments and the memory -/
abbrev Fn := List D → Mem → R D
def toR : SR → R D
  | .nx _ M => .ok .non M
  | .rt v M => .ok v M
  | .exc C fs _ M => .exc C fs M
  | _ => .bad
def startE (n : Nat) (ds : List D) : Env := ds.map some ++ List.replicate (n - ds.length) none
/-- a body's denotation as that of its def, of n slots -/
def fnOfDen (n : Nat) (d : DenS) : Fn := fun ds M => toR (d (startE n ds) M)
def spF (G : Glb) (n : Nat) (F : Fn) : Sp := fun vs H Q E => ∃ io M ds, RM G io M H ∧ DVs G io H ds vs ∧ ds.length = n ∧ Go G E io H (F ds M) fun x M' io' H' => ∀ v, DV G io' H' x v → Q v H'
theorem start_re {G : Glb} {io : List Addr} {H : Hp} {N : List Str} {ds : List D} {vs : List V} (h : DVs G io H ds vs) : RE G io H (startE N.length ds) (L2.start N vs) := by
  have hl := h.length
  refine ⟨by simp [startE, L2.start, hl], fun i d e => ?_⟩
  unfold startE at e
  by_cases hi : i < ds.length
  · rw [List.getElem?_append_left (by simpa using hi), List.getElem?_map] at e
    cases e2 : ds[i]? with
    | none => rw [e2] at e; cases e
    | some x =>
      rw [e2] at e
      cases e
      obtain ⟨v, h1, h2⟩ := h.get e2
      refine ⟨v, ?_, h2⟩
      unfold L2.start
      rw [List.getElem?_append_left (by rw [List.length_map, ← hl]; exact hi), List.getElem?_map, h1]
      rfl
  · rw [List.getElem?_append_right (by simpa using hi), List.getElem?_replicate] at e
    split at e <;> cases e
section
variable {P : Program} {w : World} {K : PySem.W.Frag} {mg : Str → Option Value} {base : Heap}
/-- the context of a def's body -/
abbrev FX (P : Program) (w : World) (K : PySem.W.Frag) (mg : Str → Option Value) (base : Heap) (N : List Str) (qual : Str) (scope : Scope) (f : Addr) (cdv : Value) (A : Around) (outer : List PySem.Env) (s : Shared) (H : Hp) (E : XK) : Cx :=
  cxOf (L2N.CX P w) P w K mg base N qual scope f cdv A outer s H E
abbrev FW (E : XK) : WX := fun c dd _ H => E c dd H
/-- what a body's derivation may use -/
structure Bdy (X : Cx) (W : WX) (k : Nat) : Prop where
  tk : L2N.Takes X W
  own : PassesOwn (model X.prog X.w) X.A X.env X.xe
  std : Std X
  room : Room k X.A
theorem ends_go {G : Glb} {E : XK} {io : List Addr} {H : Hp} {r : SR} {Q : VK} (h : Go G E io H (toR r) fun x M' io' H' => ∀ v, DV G io' H' x v → Q v H') : GoS G (FW E) io H r { nx := fun _ H' => Q .non H', rt := Q } := by
  cases r with
  | nx ρ M => exact fun io' H' σ' e r _ => h io' H' e r .non rfl
  | rt v M => exact fun io' H' u e r x => h io' H' e r u x
  | exc C fs ρ M => exact fun io' H' σ' c dd e r _ x => h io' H' c dd e r x
  | bk ρ M => exact h.elim
  | ct ρ M => exact h.elim
  | bad => exact h.elim
/-- THE RULE: a def of the text by its body's denotation -/
theorem fn_den {x qual : Str} {params : Arguments} {body : List Stmt} {scope : Scope} {dvs : List V} {kws : List (Str × V)} {f : Addr} {fd : FuncData} {N ps : List Str} {k : Nat} {d : DenS} (F : FunD K x qual params body scope dvs kws f fd) (S : FnScope N ps scope)
    (hb : ∀ (cdv : Value) (A : Around) (outer : List PySem.Env) (s : Shared) (H : Hp) (E : XK), Bdy (FX P w K mg base N qual scope f cdv A outer s H E) (FW E) k → DSs (FX P w K mg base N qual scope f cdv A outer s H E) (FW E) d body) :
    FnOk P w K mg base (L2N.CX P w) (k + 1) f fd ps (spF ⟨mg, K⟩ ps.length (fnOfDen N.length d)) := by
  refine F.ok S (fun vs H Q E ⟨io, M, ds, _, hv, hl, _⟩ => hv.length.symm.trans hl) fun cdv A outer s H vs Q E hr h => ?_
  obtain ⟨io, M, ds, hR, hv, hl, g⟩ := h
  refine ⟨_, hb cdv A outer s H E ⟨L2N.takes_of rfl rfl rfl rfl, passes_of (K := fun e s'' => L2N.CX P w outer H s E e s'') rfl, ⟨rfl, ?_⟩, hr⟩, io, M, startE N.length ds, hR, start_re hv, ends_go g⟩
  have := hr.un
  show (A.deeper _).units + 65 < cLine
  omega
/-- a def that may be called by its name -/
structure FnS (P : Program) (w : World) (K : PySem.W.Frag) (mg : Str → Option Value) (base : Heap) (k : Nat) (f : Str) (pa : Arguments) (ps : List Str) (F : Fn) : Prop where
  ex : ∃ a x qual body scope kV doc pm an cdv ct, FnOk P w K mg base (L2N.CX P w) k a (PySem.W.fnOf x qual pa body scope .none kV doc pm an cdv ct) ps (spF ⟨mg, K⟩ ps.length F) ∧ mg f = some (.ref a) ∧ PySem.W.keepIn K (.ref a) = true
theorem FnS.mono {j k : Nat} {f : Str} {pa : Arguments} {ps : List Str} {F : Fn} (h : FnS P w K mg base j f pa ps F) (hk : j ≤ k) : FnS P w K mg base k f pa ps F := by
  obtain ⟨a, x, qual, body, scope, kV, doc, pm, an, cdv, ct, h1, h2, h3⟩ := h.ex
  exact ⟨⟨a, x, qual, body, scope, kV, doc, pm, an, cdv, ct, h1.mono hk, h2, h3⟩⟩
end
/-- how keywords' values come to the parameters -/
def pick {α : Type} (perm : List Nat) (l : List α) : List α := perm.filterMap (l[·]?)
theorem pick_dv {G : Glb} {io : List Addr} {H : Hp} {ds : List D} {vs : List V} (h : DVs G io H ds vs) : ∀ perm : List Nat, DVs G io H (pick perm ds) (pick perm vs)
  | [] => DVs.nil
  | i :: r => by
    have ih := pick_dv h r
    unfold pick at ih ⊢
    rw [List.filterMap_cons, List.filterMap_cons]
    cases e : ds[i]? with
    | none =>
      have e2 : vs[i]? = none := List.getElem?_eq_none_iff.mpr (by rw [← h.length]; exact List.getElem?_eq_none_iff.mp e)
      rw [e2]
      exact ih
    | some d =>
      obtain ⟨v, h1, h2⟩ := h.get e
      rw [h1]
      exact DVs.cons h2 ih
theorem pick_vals {vs : List V} {us : List Value} (h : Vals vs us) : ∀ perm : List Nat, Vals (pick perm vs) (pick perm us)
  | [] => .nil
  | i :: r => by
    have ih := pick_vals h r
    unfold pick at ih ⊢
    rw [List.filterMap_cons, List.filterMap_cons]
    cases e : vs[i]? with
    | none => rw [h.none_of e]; exact ih
    | some d =>
      obtain ⟨v, h1, h2⟩ := h.get e
      rw [h1]
      exact .cons h2 ih
section
variable {X : Cx} {W : WX} {k j : Nat} {f : Str} {pa : Arguments} {ps : List Str} {F : Fn} {p pos : Pos} {e : Expr} {es : List Expr} {kws : List Keyword}
abbrev FnX (X : Cx) (k : Nat) (f : Str) (pa : Arguments) (ps : List Str) (F : Fn) : Prop := FnS X.prog X.w X.K X.mg X.base k f pa ps F
def dCall (n : Nat) (F : Fn) (d : DenA) : Den := fun ρ M => (d ρ M).bind fun xs M1 => if xs.length = n then F xs M1 else .bad
theorem call_imp {n : Nat} {d : DenA} : ∀ σ H Q, tE (gX X) W (dCall n F d) σ H Q → tCallS (spF (gX X) n F) (WE W) (tA (gX X) W d) σ H Q := fun σ H Q ⟨io, M, ρ, hR, hE, g⟩ => by
  refine ⟨io, M, ρ, hR, hE, ?_⟩
  cases ed : d ρ M with
  | ok xs M1 =>
    unfold dCall at g
    rw [ed] at g
    have g' : Go (gX X) (fun c dd H' => W c dd σ H') io H (if xs.length = n then F xs M1 else .bad) (fun x M' io' H' => ∀ v, DV (gX X) io' H' x v → Q v H') := g
    intro io1 H1 e1 r1 vs hv
    split at g'
    · rename_i hl
      exact ⟨io1, M1, xs, r1, hv, hl, Go.later e1 g'⟩
    · exact g'.elim
  | exc C fs M1 => unfold dCall at g; rw [ed] at g; exact g
  | bad => unfold dCall at g; rw [ed] at g; exact g
/-- how positional arguments are bound -/
def BindP (pa : Arguments) (ps : List Str) : Prop := ∀ (x qual : Str) (body : List Stmt) (scope : Scope) (kV doc pm : Value) (an : Option Addr) (cdv ct : Value) (us : List Value), us.length = ps.length → bindArgs (PySem.W.fnOf x qual pa body scope .none kV doc pm an cdv ct) ⟨us, []⟩ = pure (ps.zip us)
/-- .. and keywords -/
def BindK (pa : Arguments) (ps : List Str) (n : Nat) (ks : List Str) (perm : List Nat) : Prop := ∀ (x qual : Str) (body : List Stmt) (scope : Scope) (kV doc pm : Value) (an : Option Addr) (cdv ct : Value) (us ws : List Value), us.length = n → ws.length = ks.length → bindArgs (PySem.W.fnOf x qual pa body scope .none kV doc pm an cdv ct) ⟨us, ks.zip ws⟩ = pure (ps.zip (pick perm (us ++ ws)))
/-- f(e, ..) -/
theorem de_call {d : DenA} (Fx : FnX X k f pa ps F) (hk : k ≤ j) (hr : Room j X.A) (tk : L2N.Takes X W) (hb : BindP pa ps) (ha : DA X W d (e :: es)) (n : Nat) (hps : ps.length = n := by rfl)
    (hg : Gl X f := by rfl) (hdb : (f == ("__debug__" : Str)) = false := by decide) (he : starEach (e :: es) X.env = (false, eval e X.env) :: starEach es X.env := by rfl) (hpl : (backTo pos (starEach es X.env)).any (·.1) = false := by rfl) :
    DE X W (dCall n F d) (.Call (.Name f p) (e :: es) [] pos) := by
  obtain ⟨a, x, qual, body, scope, kV, doc, pm, an, cdv, ct, G, hm, hkp⟩ := Fx.ex
  subst hps
  exact PE.imp (pe_callS (E := WE W) (G.mono hk) hr hg hm hkp (.all (hb x qual body scope kV doc pm an cdv ct)) (fun σ => L2N.passAt tk σ) ha hdb he hpl) call_imp
/-- f() -/
theorem de_call0 (Fx : FnX X k f pa [] F) (hk : k ≤ j) (hr : Room j X.A) (tk : L2N.Takes X W) (hb : BindP pa []) (hg : Gl X f := by rfl) (hdb : (f == ("__debug__" : Str)) = false := by decide) : DE X W (dCall 0 F dNil) (.Call (.Name f p) [] [] pos) := by
  obtain ⟨a, x, qual, body, scope, kV, doc, pm, an, cdv, ct, G, hm, hkp⟩ := Fx.ex
  refine ⟨fun pins s σ H Q I h => ?_⟩
  obtain ⟨io, M, ρ, hR, hE, g⟩ := call_imp (d := dNil) σ H Q h
  refine wpAny_Call_Name_kw (ld_glob I hg hm ?_ hdb)
  refine PySem.W.callWith_K0 (I.kIn) hkp ?_
  exact run_fnS (E := WE W) (G.mono hk) hr (.all (hb x qual body scope kV doc pm an cdv ct)) (L2N.passAt tk σ) I .nil (Go.ok g hR [] DVs.nil)
/-- keywords -/
abbrev DK (X : Cx) (W : WX) (d : DenA) (kws : List Keyword) : Prop := PK X kws (tA (gX X) W d)
theorem PK.imp {t t' : TA} (h : PK X kws t) (hi : ∀ σ H Q, t' σ H Q → t σ H Q) : PK X kws t' := ⟨fun p pins s σ H Q I q => h.run p pins s σ H Q I (hi _ _ _ q)⟩
theorem dk_nil : DK X W dNil [] := PK.imp pk_nil fun σ H Q ⟨io, M, ρ, hR, hE, g⟩ => Go.ok g hR [] DVs.nil
theorem dk_cons {d : Den} {r : DenA} {nm : Option Str} {kpos : Pos} (h : DE X W d e) (t : DK X W r kws) : DK X W (dCons d r) (⟨nm, e, kpos⟩ :: kws) :=
  PK.imp (pk_cons h t) fun σ H Q ⟨io, M, ρ, hR, hE, g⟩ => ⟨io, M, ρ, hR, hE, g.bind.imp fun x M1 io1 H1 e1 r1 g1 v hv => ⟨io1, M1, ρ, r1, hE.mono e1, g1.bind.imp fun xs M2 io2 H2 e2 r2 g2 vs hvs => Go.ok g2 r2 (v :: vs) (DVs.cons (DV.mono e2 _ _ hv) hvs)⟩⟩
def dCallK (n m : Nat) (perm : List Nat) (F : Fn) (d dk : DenA) : Den := fun ρ M => (d ρ M).bind fun xs M1 => (dk ρ M1).bind fun ys M2 => if xs.length = n ∧ ys.length = m ∧ perm.length = (pick perm (xs ++ ys)).length then F (pick perm (xs ++ ys)) M2 else .bad
theorem Go.ifp {α : Type} {G : Glb} {W : Value → Option Addr → Hp → Prop} {io : List Addr} {H : Hp} {c : Prop} [Decidable c] {r : R α} {P : α → Mem → List Addr → Hp → Prop} (h : Go G W io H (if c then r else .bad) P) : c ∧ Go G W io H r P := by
  split at h
  · rename_i hc
    exact ⟨hc, h⟩
  · exact h.elim
theorem run_k {n : Nat} {ks : List Str} {perm : List Nat} (Fx : FnX X k f pa ps F) (hk : k ≤ j) (hr : Room j X.A) (tk : L2N.Takes X W) (hb : BindK pa ps n ks perm) (hps : ps.length = perm.length) {pins : List (Addr × Obj)} {s : Shared} {σ : St} {H : Hp} {Q : VK} {io : List Addr} {M : Mem} {xs ys : List D} {vs zs : List V} {us ws : List Value}
    (I : Inv X pins σ H s) (hR : RM (gX X) io M H) (hx : DVs (gX X) io H xs vs) (hy : DVs (gX X) io H ys zs) (rv : Vals vs us) (rw : Vals zs ws)
    (g : Go (gX X) (fun c dd H' => W c dd σ H') io H (if xs.length = n ∧ ys.length = ks.length ∧ perm.length = (pick perm (xs ++ ys)).length then F (pick perm (xs ++ ys)) M else .bad) fun x M' io' H' => ∀ v, DV (gX X) io' H' x v → Q v H') :
    ∃ a, X.mg f = some (.ref a) ∧ PySem.W.keepIn X.K (.ref a) = true ∧ wpAny (model X.prog X.w) X.A (call (.ref a) us (ks.zip ws)) (EP X pins σ Q) X.xe s := by
  obtain ⟨a, x, qual, body, scope, kV, doc, pm, an, cdv, ct, G, hm, hkp⟩ := Fx.ex
  refine ⟨a, hm, hkp, ?_⟩
  obtain ⟨⟨h1, h2, h3⟩, g⟩ := g.ifp
  have d1 := pick_dv (DVs.append hx hy) perm
  have v1 := pick_vals (Vals.append rv rw) perm
  have hp : (pick perm (xs ++ ys)).length = ps.length := by rw [hps]; exact h3.symm
  refine wpAny_call (codeAny_mono ((G.mono hk).run X.A X.stack s H ⟨us, ks.zip ws⟩ (pick perm (us ++ ws)) (pick perm (vs ++ zs)) Q (WE W σ) hr I.env0 (.of_eq (hb x qual body scope kV doc pm an cdv ct us ws ?_ ?_)) v1 ⟨io, M, _, hR, d1, hp, g⟩) fun r s' hq => ?_)
  · rw [← rv.length, ← hx.length]; exact h1
  · rw [← rw.length, ← hy.length]; exact h2
  · cases r with
    | error e => exact L2N.passAt tk σ pins H s e s' I hq
    | ok fl =>
      cases fl with
      | ret u => exact I.after hq
      | next => exact False.elim hq
      | brk => exact False.elim hq
      | cont => exact False.elim hq
/-- f(k = v, ..) -/
theorem de_callK0 {dk : DenA} (ks : List Str) (perm : List Nat) (Fx : FnX X k f pa ps F) (hk : k ≤ j) (hr : Room j X.A) (tk : L2N.Takes X W) (hb : BindK pa ps 0 ks perm) (hkw : DK X W dk kws) (hps : ps.length = perm.length := by rfl) (hg : Gl X f := by rfl) (hdb : (f == ("__debug__" : Str)) = false := by decide)
    (hall : (backToKw pos (keywordEach kws X.env)).all (·.1.isSome) = true := by rfl) (hks : (backToKw pos (keywordEach kws X.env)).filterMap (·.1) = ks := by rfl) (hpl : ((backTo pos (starEach [] X.env)).any (·.1) || (backToKw pos (keywordEach kws X.env)).any (·.1.isNone)) = false := by rfl) :
    DE X W (dCallK 0 ks.length perm F dNil dk) (.Call (.Name f p) [] kws pos) := by
  obtain ⟨a, hm, hkp⟩ : ∃ a, X.mg f = some (.ref a) ∧ PySem.W.keepIn X.K (.ref a) = true := by
    obtain ⟨a, x, qual, body, scope, kV, doc, pm, an, cdv, ct, G, hm, hkp⟩ := Fx.ex
    exact ⟨a, hm, hkp⟩
  refine ⟨fun pins s σ H Q I ⟨io, M, ρ, hR, hE, g⟩ => ?_⟩
  refine wpAny_Call_Name_kw (ld_glob I hg hm ?_ hdb)
  refine PySem.W.callWith_KW0 (h₀ := X.base) I.ok.mod.kin hkp hall ?_ hpl
  have g1 := Go.ok g.bind hR
  refine thn (hkw.run pos pins s σ H (fun zs H2 => ∃ io2 M2 ys, RM (gX X) io2 M2 H2 ∧ DVs (gX X) io2 H2 ys zs ∧ Go (gX X) (fun c dd H' => W c dd σ H') io2 H2 (if ([] : List D).length = 0 ∧ ys.length = ks.length ∧ perm.length = (pick perm ([] ++ ys)).length then F (pick perm ([] ++ ys)) M2 else .bad) fun x M' io' H' => ∀ v, DV (gX X) io' H' x v → Q v H') I ⟨io, M, ρ, hR, hE, g1.bind.imp fun ys M2 io2 H2 e2 r2 g2 zs hz => ⟨io2, M2, ys, r2, hz, g2⟩⟩) fun ws s2 ⟨zs, H2, I2, rz, io2, M2, ys, r2, hz, g2⟩ => ⟨I2.kIn, ?_⟩
  rw [hks]
  obtain ⟨a', hm', _, hrun⟩ := run_k Fx hk hr tk hb hps I2 r2 DVs.nil hz .nil rz g2
  rw [hm] at hm'
  cases hm'
  exact hrun
/-- f(e, .., k = v, ..) -/
theorem de_callK {d dk : DenA} (n : Nat) (ks : List Str) (perm : List Nat) (Fx : FnX X k f pa ps F) (hk : k ≤ j) (hr : Room j X.A) (tk : L2N.Takes X W) (hb : BindK pa ps n ks perm) (ha : DA X W d (e :: es)) (hkw : DK X W dk kws) (hps : ps.length = perm.length := by rfl) (hg : Gl X f := by rfl) (hdb : (f == ("__debug__" : Str)) = false := by decide)
    (hall : (backToKw pos (keywordEach kws X.env)).all (·.1.isSome) = true := by rfl) (hks : (backToKw pos (keywordEach kws X.env)).filterMap (·.1) = ks := by rfl) (hpl : ((backTo pos (starEach (e :: es) X.env)).any (·.1) || (backToKw pos (keywordEach kws X.env)).any (·.1.isNone)) = false := by rfl) (he : starEach (e :: es) X.env = (false, eval e X.env) :: starEach es X.env := by rfl) :
    DE X W (dCallK n ks.length perm F d dk) (.Call (.Name f p) (e :: es) kws pos) := by
  obtain ⟨a, hm, hkp⟩ : ∃ a, X.mg f = some (.ref a) ∧ PySem.W.keepIn X.K (.ref a) = true := by
    obtain ⟨a, x, qual, body, scope, kV, doc, pm, an, cdv, ct, G, hm, hkp⟩ := Fx.ex
    exact ⟨a, hm, hkp⟩
  refine ⟨fun pins s σ H Q I ⟨io, M, ρ, hR, hE, g⟩ => ?_⟩
  refine wpAny_Call_Name_kw (ld_glob I hg hm ?_ hdb)
  refine PySem.W.callWith_KW (h₀ := X.base) I.ok.mod.kin hkp hall ?_ hpl he
  refine thn (ha.run pos pins s σ H (fun vs H1 => ∃ io1 M1 xs, RM (gX X) io1 M1 H1 ∧ RE (gX X) io1 H1 ρ σ ∧ DVs (gX X) io1 H1 xs vs ∧ Go (gX X) (fun c dd H' => W c dd σ H') io1 H1 ((dk ρ M1).bind fun ys M2 => if xs.length = n ∧ ys.length = ks.length ∧ perm.length = (pick perm (xs ++ ys)).length then F (pick perm (xs ++ ys)) M2 else .bad) fun x M' io' H' => ∀ v, DV (gX X) io' H' x v → Q v H') I ⟨io, M, ρ, hR, hE, g.bind.imp fun xs M1 io1 H1 e1 r1 g1 vs hv => ⟨io1, M1, xs, r1, hE.mono e1, hv, g1⟩⟩) fun us s1 ⟨vs, H1, I1, rv, io1, M1, xs, r1, hE1, hv, g1⟩ => ?_
  refine thn (hkw.run pos pins s1 σ H1 (fun zs H2 => ∃ io2 M2 ys, RM (gX X) io2 M2 H2 ∧ DVs (gX X) io2 H2 xs vs ∧ DVs (gX X) io2 H2 ys zs ∧ Go (gX X) (fun c dd H' => W c dd σ H') io2 H2 (if xs.length = n ∧ ys.length = ks.length ∧ perm.length = (pick perm (xs ++ ys)).length then F (pick perm (xs ++ ys)) M2 else .bad) fun x M' io' H' => ∀ v, DV (gX X) io' H' x v → Q v H') I1 ⟨io1, M1, ρ, r1, hE1, g1.bind.imp fun ys M2 io2 H2 e2 r2 g2 zs hz => ⟨io2, M2, ys, r2, DVs.mono e2 _ _ hv, hz, g2⟩⟩) fun ws s2 ⟨zs, H2, I2, rz, io2, M2, ys, r2, hv2, hz, g2⟩ => ⟨I2.kIn, ?_⟩
  rw [hks]
  obtain ⟨a', hm', _, hrun⟩ := run_k Fx hk hr tk hb hps I2 r2 hv2 hz rv rz g2
  rw [hm] at hm'
  cases hm'
  exact hrun

/-! ### built-ins by values -/
abbrev Bf := List D → Mem → Op
def BfR (X : Cx) (r : List V → Hp → VK → Prop) (f : Bf) : Prop := ∀ (io : List Addr) (M : Mem) (H : Hp) (xs : List D) (vs : List V) (Q : VK), RM (gX X) io M H → DVs (gX X) io H xs vs → Gv (gX X) io H (f xs M) Q → r vs H Q
def dBf (f : Bf) (d : DenA) : Den := fun ρ M => (d ρ M).bind fun xs M1 => lift (f xs M1)
theorem tCB_imp {r : List V → Hp → VK → Prop} {f : Bf} {d : DenA} (h : BfR X r f) : ∀ σ H Q, tE (gX X) W (dBf f d) σ H Q → tCB r (tA (gX X) W d) σ H Q := fun σ H Q ⟨io, M, ρ, hR, hE, g⟩ =>
  ⟨io, M, ρ, hR, hE, g.bind.imp fun xs M1 io1 H1 e1 r1 g1 vs hv => h io1 M1 H1 xs vs Q r1 hv g1.gv⟩
theorem de_blt {x : Str} {id : String} {r : List V → Hp → VK → Prop} {fn : Bf} {d : DenA} (hc : CallR X (.builtin id) r) (h : BfR X r fn) (hm : X.mg x = none) (ha : DA X W d (e :: es)) (hv : bootBuiltins x = some (.builtin id) := by decide +kernel) (hg : Gl X x := by rfl) (hn : x ≠ "__name__" := by decide) (hdb : (x == ("__debug__" : Str)) = false := by decide)
    (he : starEach (e :: es) X.env = (false, eval e X.env) :: starEach es X.env := by rfl) (hpl : (backTo pos (starEach es X.env)).any (·.1) = false := by rfl) : DE X W (dBf fn d) (.Call (.Name x p) (e :: es) [] pos) :=
  PE.imp (pe_callB hc hg hm hv ha hn hdb he hpl) (tCB_imp h)
theorem de_bty {x : Str} {T : String} {r : List V → Hp → VK → Prop} {fn : Bf} {d : DenA} (hc : CallR X (.type T) r) (h : BfR X r fn) (hm : X.mg x = none) (ha : DA X W d (e :: es)) (hv : bootBuiltins x = some (.type T) := by decide +kernel) (hg : Gl X x := by rfl) (hn : x ≠ "__name__" := by decide) (hdb : (x == ("__debug__" : Str)) = false := by decide)
    (he : starEach (e :: es) X.env = (false, eval e X.env) :: starEach es X.env := by rfl) (hpl : (backTo pos (starEach es X.env)).any (·.1) = false := by rfl) : DE X W (dBf fn d) (.Call (.Name x p) (e :: es) [] pos) :=
  PE.imp (pe_callTy hc hg hm hv ha hn hdb he hpl) (tCB_imp h)
end
end Lp
/-! LpBlt: built-in functions and types by values; methods of lists and texts; stores into lists. -/
namespace Lp
open PySem PySem.Spec PyProof.Rows L2
section
variable {X : Cx} {W : WX}
/-- the items of a list or a tuple -/
def seqO (M : Mem) : D → Option (List D)
  | .tup xs => some xs
  | .ro xs => some xs
  | .ref a => match M[a]? with
    | some (.lst xs) => some xs
    | _ => none
  | _ => none
theorem seqO_v {G : Glb} {io : List Addr} {M : Mem} {H : Hp} {d : D} {v : V} {xs : List D} (hR : RM G io M H) (h : seqO M d = some xs) (hv : DV G io H d v) : ∃ p vs, v = .ref p ∧ (SqL G.K H p vs ∨ SqT G.K H p vs) ∧ DVs G io H xs vs := by
  unfold seqO at h
  split at h
  · cases h
    obtain ⟨p, vs, rfl, hp, h2⟩ := hv
    exact ⟨p, vs, rfl, .inr hp.sq, h2⟩
  · cases h
    obtain ⟨p, vs, rfl, hp, h2⟩ := hv
    exact ⟨p, vs, rfl, .inl hp.sq, h2⟩
  · obtain ⟨p, hp, rfl⟩ := hv
    split at h
    · rename_i ys hy
      cases h
      obtain ⟨vs, h1, h2⟩ := hR.obj _ _ _ hp hy
      exact ⟨p, vs, rfl, .inl (SqL.of h1), h2⟩
    · cases h
  · cases h
/-- the items of a list -/
def lstO (M : Mem) : D → Option (List D)
  | .ro xs => some xs
  | .ref a => match M[a]? with
    | some (.lst xs) => some xs
    | _ => none
  | _ => none
theorem lstO_v {G : Glb} {io : List Addr} {M : Mem} {H : Hp} {d : D} {v : V} {xs : List D} (hR : RM G io M H) (h : lstO M d = some xs) (hv : DV G io H d v) : ∃ p vs, v = .ref p ∧ SqL G.K H p vs ∧ DVs G io H xs vs := by
  unfold lstO at h
  split at h
  · cases h
    obtain ⟨p, vs, rfl, hp, h2⟩ := hv
    exact ⟨p, vs, rfl, hp.sq, h2⟩
  · obtain ⟨p, hp, rfl⟩ := hv
    split at h
    · rename_i ys hy
      cases h
      obtain ⟨vs, h1, h2⟩ := hR.obj _ _ _ hp hy
      exact ⟨p, vs, rfl, SqL.of h1, h2⟩
    · cases h
  · cases h
/-- items of one kind -/
def asInt : D → Option Int
  | .int i => some i
  | _ => none
def asStr : D → Option Str
  | .str i => some i
  | _ => none
def asBool : D → Option Bool
  | .bl i => some i
  | _ => none
theorem allO_map {α : Type} {f : D → Option α} {g : α → V} {G : Glb} {io : List Addr} {H : Hp} (hf : ∀ d a v, f d = some a → DV G io H d v → v = g a) : ∀ {ds : List D} {as : List α} {vs : List V}, allO f ds = some as → DVs G io H ds vs → vs = as.map g
  | [], _, _, e, h => by cases e; cases h; rfl
  | d :: ds, _, _, e, ⟨v, r, h, q, z⟩ => by
    unfold allO at e
    split at e
    · rename_i a as e1 e2
      cases e
      subst h
      rw [hf _ _ _ e1 q, allO_map hf e2 z]
      rfl
    · cases e
theorem asInt_v {G : Glb} {io : List Addr} {H : Hp} (d : D) (a : Int) (v : V) (h : asInt d = some a) (hv : DV G io H d v) : v = .int a := by
  cases d <;> simp [asInt] at h
  subst h
  exact hv
theorem asStr_v {G : Glb} {io : List Addr} {H : Hp} (d : D) (a : Str) (v : V) (h : asStr d = some a) (hv : DV G io H d v) : v = .str a := by
  cases d <;> simp [asStr] at h
  subst h
  exact hv
theorem asBool_v {G : Glb} {io : List Addr} {H : Hp} (d : D) (a : Bool) (v : V) (h : asBool d = some a) (hv : DV G io H d v) : v = .bl a := by
  cases d <;> simp [asBool] at h
  subst h
  exact hv
/-! ### len, list, tuple, all, any, sum, int -/
def fLen : Bf
  | [.str z], M => if z.length ≤ SZ then some (.int z.length, M) else none
  | [x], M => (seqO M x).map fun xs => (.int xs.length, M)
  | _, _ => none
theorem bf_len : BfR X (fun xs H Q => ∃ x n, xs = [x] ∧ LenV X.K x H n ∧ Q (.int n) H) fLen := by
  intro io M H xs vs Q hR hx q
  unfold fLen at q
  split at q
  · rename_i z
    obtain ⟨v, r, rfl, h1, h2⟩ := hx
    cases h2
    cases h1
    split at q
    · rename_i hl
      exact ⟨_, z.length, rfl, ⟨by rw [← sz_eq]; exact hl, rfl⟩, q.same hR rfl⟩
    · exact q.none_.elim
  · rename_i x _
    obtain ⟨v, r, rfl, h1, h2⟩ := hx
    cases h2
    cases e : seqO M x with
    | none => rw [e] at q; exact q.none_.elim
    | some ys =>
      rw [e] at q
      obtain ⟨p, us, rfl, hs, hd⟩ := seqO_v hR e h1
      refine ⟨_, us.length, rfl, ?_, q.same hR (by rw [hd.length]; rfl)⟩
      rcases hs with hs | hs
      · exact .inl ⟨us, hs, rfl⟩
      · exact .inr ⟨us, hs, rfl⟩
  · exact q.none_.elim
def fList : Bf
  | [x], M => (seqO M x).map fun xs => (.ref M.length, M ++ [.lst xs])
  | _, _ => none
theorem bf_list : BfR X (fun xs H Q => ∃ p ys, xs = [.ref p] ∧ (SqL X.K H p ys ∨ SqT X.K H p ys) ∧ ∀ l, H l = none → Q (.ref l) (upd H l (.lst ys))) fList := by
  intro io M H xs vs Q hR hx q
  unfold fList at q
  split at q
  · rename_i x
    obtain ⟨v, r, rfl, h1, h2⟩ := hx
    cases h2
    cases e : seqO M x with
    | none => rw [e] at q; exact q.none_.elim
    | some ys =>
      rw [e] at q
      obtain ⟨p, us, rfl, hs, hd⟩ := seqO_v hR e h1
      exact ⟨p, us, rfl, hs, fun l hl => Gv.new (q : Gv _ _ _ (some (.ref M.length, M ++ [.lst ys])) _) hR hl ⟨_, upd_same, DVs.mono (ex_new hl) _ _ hd⟩⟩
  · exact q.none_.elim
def fTuple : Bf
  | [x], M => (seqO M x).map fun xs => (.tup xs, M)
  | _, _ => none
theorem bf_tuple : BfR X (fun xs H Q => ∃ p ys, xs = [.ref p] ∧ ((SqL X.K H p ys ∧ ∀ l, H l = none → Q (.ref l) (upd H l (.tup ys))) ∨ (SqT X.K H p ys ∧ Q (.ref p) H))) fTuple := by
  intro io M H xs vs Q hR hx q
  unfold fTuple at q
  split at q
  · rename_i x
    obtain ⟨v, r, rfl, h1, h2⟩ := hx
    cases h2
    cases e : seqO M x with
    | none => rw [e] at q; exact q.none_.elim
    | some ys =>
      rw [e] at q
      cases x with
      | tup zs =>
        cases e
        obtain ⟨p, us, rfl, hp, hd⟩ := h1
        exact ⟨p, us, rfl, .inr ⟨hp.sq, Gv.same (q : Gv _ _ _ (some (.tup ys, M)) _) hR ⟨p, us, rfl, hp, hd⟩⟩⟩
      | ro zs =>
        cases e
        obtain ⟨p, us, rfl, hp, hd⟩ := h1
        exact ⟨p, us, rfl, .inl ⟨hp.sq, fun l hl => Gv.tup (q : Gv _ _ _ (some (.tup ys, M)) _) hR hl hd⟩⟩
      | ref a =>
        obtain ⟨p, us, rfl, hs, hd⟩ := lstO_v hR (show lstO M (.ref a) = some ys from e) h1
        exact ⟨p, us, rfl, .inl ⟨hs, fun l hl => Gv.tup (q : Gv _ _ _ (some (.tup ys, M)) _) hR hl hd⟩⟩
      | _ => cases e
  · exact q.none_.elim
def fAll : Bf
  | [x], M => (lstO M x).bind fun xs => (allO asBool xs).map fun bs => (.bl (bs.all id), M)
  | _, _ => none
def fAny : Bf
  | [x], M => (lstO M x).bind fun xs => (allO asBool xs).map fun bs => (.bl (bs.any id), M)
  | _, _ => none
def fSum : Bf
  | [x], M => (lstO M x).bind fun xs => (allO asInt xs).map fun ns => (.int ns.sum, M)
  | _, _ => none
theorem one_of {G : Glb} {io : List Addr} {M : Mem} {H : Hp} {xs : List D} {vs : List V} {Q : VK} {f : Bf} {α : Type} {as : D → Option α} {g : α → V} {k : List α → D} (hf : ∀ x M, f [x] M = (lstO M x).bind fun xs => (allO as xs).map fun bs => (k bs, M)) (hn : ∀ ys M, ys.length ≠ 1 → f ys M = none)
    (ha : ∀ d a v, as d = some a → DV G io H d v → v = g a) (hR : RM G io M H) (hx : DVs G io H xs vs) (q : Gv G io H (f xs M) Q) : ∃ p bs, vs = [.ref p] ∧ SqL G.K H p (bs.map g) ∧ Gv G io H (some (k bs, M)) Q := by
  match xs, hx with
  | [], _ => rw [hn [] M (by decide)] at q; exact q.none_.elim
  | x :: y :: r, _ => rw [hn _ M (by simp)] at q; exact q.none_.elim
  | [x], ⟨v, r, hv, h1, h2⟩ =>
    cases hv
    cases h2
    rw [hf] at q
    cases e : lstO M x with
    | none => rw [e] at q; exact q.none_.elim
    | some ys =>
      rw [e] at q
      have q' : Gv G io H ((allO as ys).map fun bs => (k bs, M)) Q := q
      cases e2 : allO as ys with
      | none => rw [e2] at q'; exact q'.none_.elim
      | some bs =>
        rw [e2] at q'
        obtain ⟨p, us, rfl, hs, hd⟩ := lstO_v hR e h1
        have := allO_map ha e2 hd
        subst this
        exact ⟨p, bs, rfl, hs, q'⟩
theorem bf_all : BfR X (rAll X.K) fAll := by
  intro io M H xs vs Q hR hx q
  obtain ⟨p, bs, rfl, hs, q⟩ := one_of (g := V.bl) (fun _ _ => rfl) (fun ys M h => by match ys, h with | [], _ => rfl | [_], h => exact absurd rfl h | _ :: _ :: _, _ => rfl) asBool_v hR hx q
  exact ⟨p, bs, rfl, hs, q.same hR rfl⟩
theorem bf_any : BfR X (rAny X.K) fAny := by
  intro io M H xs vs Q hR hx q
  obtain ⟨p, bs, rfl, hs, q⟩ := one_of (g := V.bl) (fun _ _ => rfl) (fun ys M h => by match ys, h with | [], _ => rfl | [_], h => exact absurd rfl h | _ :: _ :: _, _ => rfl) asBool_v hR hx q
  exact ⟨p, bs, rfl, hs, q.same hR rfl⟩
theorem bf_sum : BfR X (rSum X.K) fSum := by
  intro io M H xs vs Q hR hx q
  obtain ⟨p, bs, rfl, hs, q⟩ := one_of (g := V.int) (fun _ _ => rfl) (fun ys M h => by match ys, h with | [], _ => rfl | [_], h => exact absurd rfl h | _ :: _ :: _, _ => rfl) asInt_v hR hx q
  exact ⟨p, bs, rfl, hs, q.same hR rfl⟩
def fInt : Bf
  | [.int i], M => some (.int i, M)
  | [.bl k], M => some (.int (if k then 1 else 0), M)
  | _, _ => none
theorem bf_int : BfR X (fun xs H Q => (∃ i, xs = [.int i] ∧ Q (.int i) H) ∨ ∃ k, xs = [.bl k] ∧ Q (.int (if k then 1 else 0)) H) fInt := by
  intro io M H xs vs Q hR hx q
  unfold fInt at q
  split at q
  · obtain ⟨v, r, rfl, h1, h2⟩ := hx
    cases h2
    cases h1
    exact .inl ⟨_, rfl, q.same hR rfl⟩
  · obtain ⟨v, r, rfl, h1, h2⟩ := hx
    cases h2
    cases h1
    exact .inr ⟨_, rfl, q.same hR rfl⟩
  · exact q.none_.elim
/-! ### isinstance, of built-in types -/
def tyO (M : Mem) : D → Option String
  | .non => some "NoneType"
  | .bl _ => some "bool"
  | .int _ => some "int"
  | .str _ => some "str"
  | .tup _ => some "tuple"
  | .ro _ => some "list"
  | .ref a => match M[a]? with
    | some (.lst _) => some "list"
    | _ => none
  | _ => none
def tyNm : D → Option String
  | .ty n => some n
  | _ => none
def isAny (t : String) : List String → Option Bool
  | [] => some false
  | c :: r => match kitB t c with
    | some true => some true
    | some false => isAny t r
    | none => none
def fIsi : Bf
  | [x, .ty c], M => match tyO M x with
    | some t => (kitB t c).map fun b => (.bl b, M)
    | none => none
  | [x, .tup cs], M => match tyO M x, allO tyNm cs with
    | some t, some ns => (isAny t ns).map fun b => (.bl b, M)
    | _, _ => none
  | _, _ => none
theorem roT_ty {K : PySem.W.Frag} {H : Hp} {p : Addr} {vs : List V} (h : SqT K H p vs) : TyX K H (.ref p) (.type "tuple") := by
  rcases h with (h | ⟨o, h⟩) | ⟨o, its, n, hk, hc, _⟩
  · exact .base (.tup h)
  · exact .fTuple h
  · exact .kTuple hk hc
theorem roL_ty {K : PySem.W.Frag} {H : Hp} {p : Addr} {vs : List V} (h : SqL K H p vs) : TyX K H (.ref p) (.type "list") := by
  rcases h with (h | ⟨o, h⟩) | ⟨o, its, n, hk, hc, _⟩
  · exact .base (.lst h)
  · exact .base (.frz h)
  · exact .kList hk hc
theorem tyO_v {G : Glb} {io : List Addr} {M : Mem} {H : Hp} {d : D} {v : V} {t : String} (hR : RM G io M H) (h : tyO M d = some t) (hv : DV G io H d v) : TyX G.K H v (.type t) := by
  unfold tyO at h
  split at h
  · cases h; cases hv; exact .base .non
  · cases h; cases hv; exact .base (.bl _)
  · cases h; cases hv; exact .base (.int _)
  · cases h; cases hv; exact .base (.str _)
  · cases h
    obtain ⟨p, vs, rfl, hp, _⟩ := hv
    exact roT_ty hp.sq
  · cases h
    obtain ⟨p, vs, rfl, hp, _⟩ := hv
    exact roL_ty hp.sq
  · obtain ⟨p, hp, rfl⟩ := hv
    split at h
    · rename_i xs hx
      cases h
      obtain ⟨vs, h1, h2⟩ := hR.obj _ _ _ hp hx
      exact .base (.lst h1)
    · cases h
  · cases h
theorem tyNm_all {G : Glb} {io : List Addr} {H : Hp} : ∀ {cs : List D} {ns : List String} {vs : List V}, allO tyNm cs = some ns → DVs G io H cs vs → Paired ClsV vs (ns.map Value.type)
  | [], _, _, e, h => by cases e; cases h; exact .nil
  | c :: cs, _, _, e, ⟨v, r, h, q, z⟩ => by
    unfold allO at e
    split at e
    · rename_i n ns e1 e2
      cases e
      subst h
      cases c <;> simp [tyNm] at e1
      subst e1
      cases q
      exact .cons (.ty _) (tyNm_all e2 z)
    · cases e
theorem isAny_kit {K : PySem.W.Frag} {t : String} : ∀ {ns : List String} {b : Bool}, isAny t ns = some b → PySem.W.kitAny K (.type t) (ns.map Value.type) = some b
  | [], _, e => e
  | c :: r, b, e => by
    unfold isAny at e
    split at e
    · rename_i h
      cases e
      exact kitAny_cons (kit_ty h) (fun z => nomatch z) fun _ => rfl
    · rename_i h
      exact kitAny_cons (kit_ty h) (fun _ => isAny_kit e) fun z => nomatch z
    · cases e
def rIsiS (K : PySem.W.Frag) : List V → Hp → VK → Prop := fun xs H Q => ∃ (x : V) (tp : Addr) (cs : List V) (t : Value) (us : List Value) (b : Bool), xs = [x, .ref tp] ∧ SqT K H tp cs ∧ Paired ClsV cs us ∧ TyX K H x t ∧ PySem.W.kitAny K t us = some b ∧ Q (.bl b) H
theorem call_isiS : CallR X (.builtin "isinstance") (rIsiS X.K) := by
  intro pins s σ H xs us Q I r h
  obtain ⟨x, tp, cs, t, ws, b, rfl, hT, k, ty, e, q⟩ := h
  obtain ⟨u1, u2, rfl, r1, r2⟩ := vals2 r
  cases (show u2 = Value.ref tp from r2)
  obtain ⟨P, Z, p, hx⟩ := kit_of I r1 ty
  obtain ⟨its, rv, ⟨o, h1, h2, n, h3⟩, hz⟩ := I.tuple hT
  have e3 := ClsV.all k rv
  subst e3
  obtain ⟨oc, od, dt, sl⟩ := o
  simp only at h2 h3
  subst h2 h3
  exact PySem.W.kia_tup Z I.kIn p h1 e hx fun tk => ⟨.bl b, H, I.tok tk, rfl, q⟩
theorem bf_isi : BfR X (fun xs H Q => rIsi X.K xs H Q ∨ rIsiS X.K xs H Q) fIsi := by
  intro io M H xs vs Q hR hx q
  unfold fIsi at q
  split at q
  · rename_i x c
    obtain ⟨v, r, rfl, h1, v2, r2, rfl, h2, h3⟩ := hx
    cases h2
    cases h3
    split at q
    · rename_i t ht
      obtain ⟨z, M', e, k⟩ := q
      obtain ⟨b, e1, e2⟩ := Option.map_eq_some_iff.mp e
      cases e2
      exact .inl ⟨v, _, _, _, b, rfl, .ty c, tyO_v hR ht h1, kit_ty e1, k io H _ Ex.refl hR rfl⟩
    · exact q.none_.elim
  · rename_i x cs
    obtain ⟨v, r, rfl, h1, v2, r2, rfl, ⟨p, us, rfl, hp, hc⟩, h3⟩ := hx
    cases h3
    split at q
    · rename_i t ns ht hns
      obtain ⟨z, M', e, k⟩ := q
      obtain ⟨b, e1, e2⟩ := Option.map_eq_some_iff.mp e
      cases e2
      exact .inr ⟨v, p, us, _, _, b, rfl, hp.sq, tyNm_all hns hc, tyO_v hR ht h1, isAny_kit e1, k io H _ Ex.refl hR rfl⟩
    · exact q.none_.elim
  · exact q.none_.elim
section
variable {p pos : Pos} {e : Expr} {es : List Expr} {d : DenA}
theorem de_len (hm : X.mg "len" = none) (ha : DA X W d [e]) (hg : Gl X "len" := by rfl) (he : starEach [e] X.env = (false, eval e X.env) :: starEach [] X.env := by rfl) : DE X W (dBf fLen d) (.Call (.Name "len" p) [e] [] pos) := de_blt call_len bf_len hm ha PySem.boot_len hg (by decide) (by decide) he
theorem de_list (hm : X.mg "list" = none) (ha : DA X W d [e]) (hg : Gl X "list" := by rfl) (he : starEach [e] X.env = (false, eval e X.env) :: starEach [] X.env := by rfl) : DE X W (dBf fList d) (.Call (.Name "list" p) [e] [] pos) := de_bty call_list_of bf_list hm ha (by decide +kernel) hg (by decide) (by decide) he
theorem de_tuple (hm : X.mg "tuple" = none) (ha : DA X W d [e]) (hg : Gl X "tuple" := by rfl) (he : starEach [e] X.env = (false, eval e X.env) :: starEach [] X.env := by rfl) : DE X W (dBf fTuple d) (.Call (.Name "tuple" p) [e] [] pos) := de_bty call_tuple_of bf_tuple hm ha (by decide +kernel) hg (by decide) (by decide) he
theorem de_all (hc : X.calm = true) (hm : X.mg "all" = none) (ha : DA X W d [e]) (hg : Gl X "all" := by rfl) (he : starEach [e] X.env = (false, eval e X.env) :: starEach [] X.env := by rfl) : DE X W (dBf fAll d) (.Call (.Name "all" p) [e] [] pos) := de_blt (cr_all hc) bf_all hm ha (by decide +kernel) hg (by decide) (by decide) he
theorem de_any (hc : X.calm = true) (hm : X.mg "any" = none) (ha : DA X W d [e]) (hg : Gl X "any" := by rfl) (he : starEach [e] X.env = (false, eval e X.env) :: starEach [] X.env := by rfl) : DE X W (dBf fAny d) (.Call (.Name "any" p) [e] [] pos) := de_blt (cr_any hc) bf_any hm ha (by decide +kernel) hg (by decide) (by decide) he
theorem de_sum (hc : X.calm = true) (hm : X.mg "sum" = none) (ha : DA X W d [e]) (hg : Gl X "sum" := by rfl) (he : starEach [e] X.env = (false, eval e X.env) :: starEach [] X.env := by rfl) : DE X W (dBf fSum d) (.Call (.Name "sum" p) [e] [] pos) := de_blt (cr_sum hc) bf_sum hm ha (by decide +kernel) hg (by decide) (by decide) he
theorem de_intc (hm : X.mg "int" = none) (ha : DA X W d [e]) (hg : Gl X "int" := by rfl) (he : starEach [e] X.env = (false, eval e X.env) :: starEach [] X.env := by rfl) : DE X W (dBf fInt d) (.Call (.Name "int" p) [e] [] pos) := de_bty call_int1 bf_int hm ha (by decide +kernel) hg (by decide) (by decide) he
theorem de_isi {e2 : Expr} (hm : X.mg "isinstance" = none) (ha : DA X W d [e, e2]) (hg : Gl X "isinstance" := by rfl) (he : starEach [e, e2] X.env = (false, eval e X.env) :: starEach [e2] X.env := by rfl) (hpl : (backTo pos (starEach [e2] X.env)).any (·.1) = false := by rfl) : DE X W (dBf fIsi d) (.Call (.Name "isinstance" p) [e, e2] [] pos) :=
  de_blt (CallR.or call_isi call_isiS) bf_isi hm ha (by decide +kernel) hg (by decide) (by decide) he hpl
end
/-! ### methods -/
/-- the built-in type of a method's object -/
def tyM (M : Mem) : D → Option String
  | .str _ => some "str"
  | .ro _ => some "list"
  | .ref a => match M[a]? with
    | some (.lst _) => some "list"
    | _ => none
  | _ => none
theorem tyM_v {G : Glb} {io : List Addr} {M : Mem} {H : Hp} {d : D} {v : V} {t : String} (hR : RM G io M H) (h : tyM M d = some t) (hv : DV G io H d v) : tyV G.K t v H := by
  unfold tyM at h
  split at h
  · cases h; cases hv; rfl
  · cases h
    obtain ⟨p, vs, rfl, hp, _⟩ := hv
    exact .inl ⟨rfl, vs, hp.sq⟩
  · obtain ⟨p, hp, rfl⟩ := hv
    split at h
    · rename_i xs hx
      cases h
      obtain ⟨vs, h1, h2⟩ := hR.obj _ _ _ hp hx
      exact .inl ⟨rfl, vs, SqL.of h1⟩
    · cases h
  · cases h
abbrev Mf := D → List D → Mem → Op
def MfR (X : Cx) (r : V → List V → Hp → VK → Prop) (f : Mf) : Prop := ∀ (io : List Addr) (M : Mem) (H : Hp) (x : D) (xs : List D) (v : V) (vs : List V) (Q : VK), RM (gX X) io M H → DV (gX X) io H x v → DVs (gX X) io H xs vs → Gv (gX X) io H (f x xs M) Q → r v vs H Q
def dMt (T : String) (f : Mf) (o : Den) (d : DenA) : Den := fun ρ M => (o ρ M).bind fun x M1 => if tyM M1 x = some T then (d ρ M1).bind fun xs M2 => lift (f x xs M2) else .bad
theorem tBM_imp {T : String} {r : V → List V → Hp → VK → Prop} {f : Mf} {o : Den} {d : DenA} (h : MfR X r f) : ∀ σ H Q, tE (gX X) W (dMt T f o d) σ H Q → tBM X.K T r (tE (gX X) W o) (tA (gX X) W d) σ H Q := fun σ H Q ⟨io, M, ρ, hR, hE, g⟩ =>
  ⟨io, M, ρ, hR, hE, g.bind.imp fun x M1 io1 H1 e1 r1 g1 v hv => by
    obtain ⟨ht, g1⟩ := g1.ifp
    exact ⟨tyM_v r1 ht hv, io1, M1, ρ, r1, hE.mono e1, g1.bind.imp fun xs M2 io2 H2 e2 r2 g2 vs hvs => h io2 M2 H2 x xs v vs Q r2 (DV.mono e2 _ _ hv) hvs g2.gv⟩⟩
theorem tBM0_imp {T : String} {r : V → List V → Hp → VK → Prop} {f : Mf} {o : Den} (h : MfR X r f) : ∀ σ H Q, tE (gX X) W (dMt T f o dNil) σ H Q → tBM0 X.K T r (tE (gX X) W o) σ H Q := fun σ H Q ⟨io, M, ρ, hR, hE, g⟩ =>
  ⟨io, M, ρ, hR, hE, g.bind.imp fun x M1 io1 H1 e1 r1 g1 v hv => by
    obtain ⟨ht, g1⟩ := g1.ifp
    exact ⟨tyM_v r1 ht hv, h io1 M1 H1 x [] v [] Q r1 hv DVs.nil (Go.gv (W := fun c dd H' => W c dd σ H') g1)⟩⟩
section
variable {o e : Expr} {es : List Expr} {name : Str} {apos cpos : Pos} {T id : String} {r : V → List V → Hp → VK → Prop} {f : Mf} {dO : Den} {d : DenA}
theorem de_mt (pa : PlainAttrs T) (slot : Slot T name id) (hty : typeOf (.builtin id) = pure (.type "method_descriptor")) (hm : MtR X id r) (h : MfR X r f) (ho : DE X W dO o) (ha : DA X W d (e :: es))
    (hbase : attributeBase o name X.env (eval o X.env) = eval o X.env := by rfl)
    (hfew : ((backTo cpos (starEach (e :: es) X.env)).all (fun x => !x.1) && (backToKw cpos (keywordEach [] X.env)).all (fun x => x.1.isSome)
      && decide ((e :: es).length + ([] : List Keyword).length + (if ([] : List Keyword).isEmpty then 0 else 1) < 30)) = true := by rfl)
    (hline : (apos.endLine == cpos.line) = true := by rfl) (hs : starEach (e :: es) X.env = (false, eval e X.env) :: starEach es X.env := by rfl) (hplain : (backTo cpos (starEach es X.env)).any (·.1) = false := by rfl) :
    DE X W (dMt T f dO d) (.Call (.Attribute o name apos) (e :: es) [] cpos) := PE.imp (pe_bm pa slot hty hm ho ha hbase hfew hline hs hplain) (tBM_imp h)
theorem de_mt0 (pa : PlainAttrs T) (slot : Slot T name id) (hty : typeOf (.builtin id) = pure (.type "method_descriptor")) (hm : MtR X id r) (h : MfR X r f) (ho : DE X W dO o)
    (hbase : attributeBase o name X.env (eval o X.env) = eval o X.env := by rfl) (hline : (apos.endLine == cpos.line) = true := by rfl) :
    DE X W (dMt T f dO dNil) (.Call (.Attribute o name apos) [] [] cpos) := PE.imp (pe_bm0 pa slot hty hm ho hbase hline) (tBM0_imp h)
end
/-! a list is changed: its address, what stood, what stands -/
theorem Gv.chg {G : Glb} {io : List Addr} {H : Hp} {M : Mem} {a : Nat} {p : Addr} {vs ws : List V} {ds : List D} {x : D} {u : V} {Q : VK} (q : Gv G io H (some (x, M.set a (.lst ds))) Q) (hR : RM G io M H) (hp : io[a]? = some p) (h1 : H p = some (.lst vs)) (hd : DVs G io H ds ws) (hu : DV G io H x u) : Q u (upd H p (.lst ws)) := by
  obtain ⟨z, M', e, k⟩ := q
  cases e
  have ex := ex_set (io := io) (o := .lst ws) h1 mt_lst
  exact k io _ u ex (hR.set hp ⟨ws, upd_same, DVs.mono ex _ _ hd⟩) (DV.mono ex _ _ hu)
def fApp : Mf
  | .ref a, [y], M => match M[a]? with
    | some (.lst xs) => if xs.length < SZ then some (.non, M.set a (.lst (xs ++ [y]))) else none
    | _ => none
  | _, _, _ => none
theorem mf_app : MfR X rAppend fApp := by
  intro io M H x xs v vs Q hR hx hv q
  unfold fApp at q
  split at q
  · rename_i a y
    obtain ⟨p, hp, rfl⟩ := hx
    obtain ⟨w, r, rfl, h1, h2⟩ := hv
    cases h2
    split at q
    · rename_i ys hy
      split at q
      · rename_i hl
        obtain ⟨us, k1, k2⟩ := hR.obj _ _ _ hp hy
        exact ⟨p, us, w, rfl, rfl, k1, by rw [← sz_eq, ← k2.length]; exact hl, q.chg hR hp k1 (DVs.append k2 ⟨w, [], rfl, h1, rfl⟩) rfl⟩
      · exact q.none_.elim
    · exact q.none_.elim
  · exact q.none_.elim
theorem de_append {o e : Expr} {apos cpos : Pos} {dO : Den} {d : DenA} (ho : DE X W dO o) (ha : DA X W d [e]) (hbase : attributeBase o "append" X.env (eval o X.env) = eval o X.env := by rfl)
    (hfew : ((backTo cpos (starEach [e] X.env)).all (fun x => !x.1) && (backToKw cpos (keywordEach [] X.env)).all (fun x => x.1.isSome)
      && decide ([e].length + ([] : List Keyword).length + (if ([] : List Keyword).isEmpty then 0 else 1) < 30)) = true := by rfl) (hline : (apos.endLine == cpos.line) = true := by rfl) (hs : starEach [e] X.env = (false, eval e X.env) :: starEach [] X.env := by rfl) :
    DE X W (dMt "list" fApp dO d) (.Call (.Attribute o "append" apos) [e] [] cpos) := de_mt PySem.F.plainAttrs_list PySem.F.slot_list_append PySem.F.type_list_append mt_append mf_app ho ha hbase hfew hline hs
/-! ### sep.join(xs) -/
def fJoin : Mf
  | .str a, [x], M => (seqO M x).bind fun xs => (allO asStr xs).bind fun ys => if (ys.map (·.length)).sum + ys.length * a.length ≤ SZ then some (.str (Txt.join a ys), M) else none
  | _, _, _ => none
theorem mf_join : MfR X (fun x xs H Q => ∃ a p, ∃ ys : List Str, x = .str a ∧ xs = [.ref p] ∧ (SqL X.K H p (ys.map V.str) ∨ SqT X.K H p (ys.map V.str)) ∧ (ys.map (·.length)).sum + ys.length * a.length ≤ 16777216 ∧ Q (.str (Txt.join a ys)) H) fJoin := by
  intro io M H x xs v vs Q hR hx hv q
  unfold fJoin at q
  split at q
  · rename_i a y
    cases hx
    obtain ⟨w, r, rfl, h1, h2⟩ := hv
    cases h2
    cases e : seqO M y with
    | none => rw [e] at q; exact q.none_.elim
    | some zs =>
      rw [e] at q
      have q' : Gv (gX X) io H ((allO asStr zs).bind fun ys => if (ys.map (·.length)).sum + ys.length * a.length ≤ SZ then some (.str (Txt.join a ys), M) else none) Q := q
      cases e2 : allO asStr zs with
      | none => rw [e2] at q'; exact q'.none_.elim
      | some ys =>
        rw [e2] at q'
        have q2 : Gv (gX X) io H (if (ys.map (·.length)).sum + ys.length * a.length ≤ SZ then some (.str (Txt.join a ys), M) else none) Q := q'
        split at q2
        · rename_i hl
          obtain ⟨p, us, rfl, hs, hd⟩ := seqO_v hR e h1
          have := allO_map asStr_v e2 hd
          subst this
          exact ⟨a, p, ys, rfl, rfl, hs, hl, q2.same hR rfl⟩
        · exact q2.none_.elim
  · exact q.none_.elim
theorem de_join {o e : Expr} {apos cpos : Pos} {dO : Den} {d : DenA} (ho : DE X W dO o) (ha : DA X W d [e]) (hbase : attributeBase o "join" X.env (eval o X.env) = eval o X.env := by rfl)
    (hfew : ((backTo cpos (starEach [e] X.env)).all (fun x => !x.1) && (backToKw cpos (keywordEach [] X.env)).all (fun x => x.1.isSome)
      && decide ([e].length + ([] : List Keyword).length + (if ([] : List Keyword).isEmpty then 0 else 1) < 30)) = true := by rfl) (hline : (apos.endLine == cpos.line) = true := by rfl) (hs : starEach [e] X.env = (false, eval e X.env) :: starEach [] X.env := by rfl) :
    DE X W (dMt "str" fJoin dO d) (.Call (.Attribute o "join" apos) [e] [] cpos) := de_mt PySem.F.plainAttrs_str PySem.F.slot_str_join PySem.F.type_str_join mt_join mf_join ho ha hbase hfew hline hs
/-! ### xs[i] = v -/
def stIx (o i v : D) (M : Mem) : Option Mem := match o, i with
  | .ref a, .int k => match M[a]? with
    | some (.lst xs) => (ixN xs.length k).map fun j => M.set a (.lst (xs.set j v))
    | _ => none
  | _, _ => none
def dSetIx (dv dO di : Den) : DenS := fun ρ M => toS (dv ρ M) ρ fun v M1 => toS (dO ρ M1) ρ fun o M2 => toS (di ρ M2) ρ fun i M3 => match stIx o i v M3 with
  | some M4 => .nx ρ M4
  | none => .bad
theorem ds_setIx {dv dO di : Den} {o i e : Expr} {tpos pos : Pos} (hv : DE X W dv e) (ho : DE X W dO o) (hi : DE X W di i)
    (ha : ∀ v, assign (.Subscript o i tpos) X.env v = (do
      let ov ← holding [v] (eval o X.env)
      let iv ← holding [v, ov] (eval i X.env)
      standAt tpos
      holding [v, ov, iv] (setItem ov iv v)
      release [v, ov, iv] []) := by intro _; rfl) (hs : swapsWithSole [.Subscript o i tpos] e pos.line X.env = pure false := by rfl) (hw : swappedStores [.Subscript o i tpos] e X.env = pure none := by rfl)
    (h1 : (assignEach [.Subscript o i tpos] X.env).map (·.2) = [assign (.Subscript o i tpos) X.env] := by rfl) : DS X W (dSetIx dv dO di) (.Assign [.Subscript o i tpos] e pos) :=
  PS.imp (ps_asg hv (pg_sub ho hi set_list ha) hs hw h1) fun Dn σ H ⟨io, M, ρ, hR, hE, g⟩ => ⟨io, M, ρ, hR, hE, (GoS.of hE g).imp fun v M1 io1 H1 e1 r1 g1 u hu =>
    ⟨io1, M1, ρ, r1, hE.mono e1, (GoS.of (hE.mono e1) g1).imp fun o M2 io2 H2 e2 r2 g2 uo huo => ⟨io2, M2, ρ, r2, (hE.mono e1).mono e2, (GoS.of ((hE.mono e1).mono e2) g2).imp fun i M3 io3 H3 e3 r3 g3 ui hui => by
      have hu3 := DV.mono e3 _ _ (DV.mono e2 _ _ hu)
      have ho3 := DV.mono e3 _ _ huo
      unfold stIx at g3
      split at g3
      · rename_i M4 hst
        split at hst
        · rename_i a k
          obtain ⟨p, hp, rfl⟩ := ho3
          cases hui
          split at hst
          · rename_i xs hx
            obtain ⟨j, hj, e4⟩ := Option.map_eq_some_iff.mp hst
            subst e4
            obtain ⟨us, k1, k2⟩ := r3.obj _ _ _ hp hx
            have ex := ex_set (io := io3) (o := .lst (us.set j u)) k1 mt_lst
            exact ⟨p, us, k, j, rfl, rfl, k1, by rw [← k2.length]; exact hj, g3 io3 _ σ ex (r3.set hp ⟨_, upd_same, DVs.mono ex _ _ (DVs.set j k2 hu3)⟩) (((hE.mono e1).mono e2).mono e3 |>.mono ex)⟩
          · cases hst
        · cases hst
      · exact g3.elim⟩⟩⟩
end
end Lp
/-! LpPar: a, b = x, y; x += e; blocks' facts. -/
namespace Lp
open PySem PySem.Spec PyProof.Rows L2
theorem stdB {X : Cx} {scope : Scope} {s : Shared} {H : Hp} {C : Addr} {cl : List (Str × Addr)} {fp : List Addr} (c : Std X) : Std (Blk X scope s H C cl fp) := ⟨c.calm, c.un⟩
theorem tk0 {X : Cx} : L2N.Takes X W0 := fun _ _ x => by
  obtain ⟨_, _, _, _, _, _, _, _, _, _, _, _, _, _, _, _, z⟩ := x
  exact z.elim
section
variable {X : Cx} {W : WX}
/-- names from their values -/
def setAll : List Nat → List D → Env → Option Env
  | [], [], ρ => some ρ
  | i :: is, x :: xs, ρ => setAll is xs (ρ.set i (some x))
  | _, _, _ => none
def dPar (is : List Nat) (d : DenA) : DenS := fun ρ M => toS (d ρ M) ρ fun xs M1 => bindS (setAll is xs ρ) M1
theorem par_end {i j : Nat} {d : DenA} : ∀ Dn σ H, tS (gX X) W (dPar [i, j] d) Dn σ H → tPar i j (tA (gX X) W d) Dn σ H := by
  intro Dn σ H ⟨io, M, ρ, hR, hE, g⟩
  refine ⟨io, M, ρ, hR, hE, (GoS.of hE g).imp fun xs M1 io1 H1 e1 r1 g1 vs hv => ?_⟩
  match xs, hv with
  | [], _ => exact g1.elim
  | [x], _ => exact g1.elim
  | x :: y :: z :: r, _ => exact g1.elim
  | [x, y], ⟨v, r, e, h1, w, r2, e2, h2, h3⟩ =>
    subst e e2
    cases h3
    exact ⟨v, w, rfl, GoS.nx_ (W := W) (Dn := Dn) (g1 : GoS (gX X) W io1 H1 (.nx ((ρ.set i (some x)).set j (some y)) M1) Dn) r1 (((hE.mono e1).set h1).set h2)⟩
theorem ds_par2 (i j : Nat) {d : DenA} {x y : Str} {a b : Expr} {px py pt pos : Pos} {kt k2 pt2} (hc : X.calm = true) (hN : X.N.Nodup) (ha : DA X W d [a, b]) (hij : i ≠ j := by decide) (hi : X.N[i]? = some x := by rfl) (hj : X.N[j]? = some y := by rfl)
    (hx : X.env.scope.names.lookup x = some .local := by rfl) (hy : X.env.scope.names.lookup y = some .local := by rfl)
    (hw : swappedStores [.Tuple [.Name x px, .Name y py] kt pt] (.Tuple [a, b] k2 pt2) X.env = pure (some [x, y]) := by rfl)
    (hs : swapsWithSole [.Tuple [.Name x px, .Name y py] kt pt] (.Tuple [a, b] k2 pt2) pos.line X.env = pure false := by rfl) :
    DS X W (dPar [i, j] d) (.Assign [.Tuple [.Name x px, .Name y py] kt pt] (.Tuple [a, b] k2 pt2) pos) := PS.imp (ps_par hc hN hi hj hij hx hy ha hw hs) par_end
/-- three names -/
theorem ds_par3 (i j l : Nat) {d : DenA} {x y z : Str} {a b c : Expr} {px py pz pt pos : Pos} {kt k2 pt2} (hc : X.calm = true) (hN : X.N.Nodup) (ha : DA X W d [a, b, c]) (hij : i ≠ j := by decide) (hil : i ≠ l := by decide) (hjl : j ≠ l := by decide) (hi : X.N[i]? = some x := by rfl) (hj : X.N[j]? = some y := by rfl) (hl : X.N[l]? = some z := by rfl)
    (hx : X.env.scope.names.lookup x = some .local := by rfl) (hy : X.env.scope.names.lookup y = some .local := by rfl) (hz : X.env.scope.names.lookup z = some .local := by rfl)
    (hw : swappedStores [.Tuple [.Name x px, .Name y py, .Name z pz] kt pt] (.Tuple [a, b, c] k2 pt2) X.env = pure (some [x, y, z]) := by rfl)
    (hs : swapsWithSole [.Tuple [.Name x px, .Name y py, .Name z pz] kt pt] (.Tuple [a, b, c] k2 pt2) pos.line X.env = pure false := by rfl) :
    DS X W (dPar [i, j, l] d) (.Assign [.Tuple [.Name x px, .Name y py, .Name z pz] kt pt] (.Tuple [a, b, c] k2 pt2) pos) := by
  refine ⟨fun pins s σ H Dn I ⟨io, M, ρ, hR, hE, g⟩ => ?_⟩
  rw [exec_Assign_arm]
  refine wpAny_bind (wpAny_standAt ?_)
  rw [hs]
  refine wpAny_bind (wpAny_pure ?_)
  rw [if_neg (by decide)]
  refine wpAny_bind (Tuple_ (thn (ha.run _ pins s σ H (fun vs H1 => ∃ u v w, vs = [u, v, w] ∧ Dn.nx (((σ.set i (some u)).set j (some v)).set l (some w)) H1) I ⟨io, M, ρ, hR, hE, (GoS.of hE g).imp fun xs M1 io1 H1 e1 r1 g1 vs hv => ?_⟩) fun us s1 ⟨vs, H1, I1, r1, q1⟩ => ?_))
  · match xs, hv with
    | [], _ => exact g1.elim
    | [x], _ => exact g1.elim
    | [x, y], _ => exact g1.elim
    | x :: y :: z :: t :: r, _ => exact g1.elim
    | [x, y, z], ⟨v, r, e, h1, w, r2, e2, h2, u, r3, e3, h3, h4⟩ =>
      subst e e2 e3
      cases h4
      exact ⟨v, w, u, rfl, GoS.nx_ (W := W) (Dn := Dn) (g1 : GoS (gX X) W io1 H1 (.nx (((ρ.set i (some x)).set j (some y)).set l (some z)) M1) Dn) r1 ((((hE.mono e1).set h1).set h2).set h3)⟩
  · obtain ⟨u, v, w, e1, q1⟩ := q1
    subst e1
    obtain ⟨u1, u2, u3, rfl, ru, rv, rw'⟩ : ∃ u1 u2 u3, us = [u1, u2, u3] ∧ RelV u u1 ∧ RelV v u2 ∧ RelV w u3 := by
      cases r1 with
      | cons p q =>
        cases q with
        | cons p' q' =>
          cases q' with
          | cons p'' q'' =>
            cases q''
            exact ⟨_, _, _, rfl, p, p', p''⟩
    refine wpAny_newObj_type ?_ (by show 3 ≤ sizeLine; decide)
    have I2 : Inv X pins σ H1 { s1 with heap := s1.heap.push { cls := .type "tuple", data := .seq [u1, u2, u3].toArray } } := I1.kept (t' := s1.toks) fun b o e => Heap.get?_push_of_some _ e
    rw [hw]
    refine wpAny_bind (wpAny_pure ?_)
    show wpAny (model X.prog X.w) X.A (do rule "assign.swapped-stores"; let items ← unpackItems (.ref s1.heap.objs.size) 3 none; assignInOrder [fun v => bindName X.env z v, fun v => bindName X.env y v, fun v => bindName X.env x v] items.reverse; pure Flow.next) _ _ _
    refine wpAny_bind (wpAny_rule (wpAny_bind (unpackItems_tuple (items := #[u1, u2, u3]) (I.ok.hd hc) (IsTup.new s1.heap _) fun h' hx' => ?_)))
    have I3 := I2.kept (h' := h') (t' := s1.toks) fun b o e => hx' b o (Nat.ne_of_lt (Heap.lt_size e)) e
    show wpAny _ _ (assignInOrder [fun v => bindName X.env z v, fun v => bindName X.env y v, fun v => bindName X.env x v] [u3, u2, u1] >>= fun _ => pure Flow.next) _ _ _
    refine wpAny_bind (assignInOrder_cons (wpAny_bindName (store_ok I3 hN hl (.inl hz) rw' (fun s2 I4 => ?_) (.inr hz))))
    refine assignInOrder_cons (wpAny_bindName (store_ok I4 hN hj (.inl hy) rv (fun s3 I5 => ?_) (.inr hy)))
    refine assignInOrder_cons (wpAny_bindName (store_ok I5 hN hi (.inl hx) ru (fun s4 I6 => assignInOrder_nil (wpAny_pure ?_)) (.inr hx)))
    rw [List.set_comm _ _ (Ne.symm hij), List.set_comm _ _ (Ne.symm hil), List.set_comm _ _ (Ne.symm hjl)] at I6
    exact ⟨_, H1, I6, q1⟩
/-! ### x += e -/
def fAug (x y : D) (M : Mem) : Op := match x with
  | .int _ => fAddI x y M
  | _ => fAddS x y M
theorem opd_aug : OpD X (fun x y H Q => rI0 (fun i j => .int (i + j)) x y H Q ∨ ∃ i j, x = .str i ∧ y = .str j ∧ i.length + j.length ≤ sizeLine ∧ Q (.str (i ++ j)) H) fAug := by
  intro io M H x y v w Q hR hx hy q
  unfold fAug at q
  split at q
  · exact .inl (opd_addI io M H _ _ v w Q hR hx hy q)
  · exact .inr (opd_addS io M H _ _ v w Q hR hx hy q)
theorem ds_augAdd (i : Nat) {d : Den} {x : Str} {e : Expr} {pos' pos : Pos} (hN : X.N.Nodup) (h : DE X W d e) (hi : X.N[i]? = some x := by rfl) (hx : Loc X.env.scope x := by first | exact Or.inl rfl | exact Or.inr rfl)
    (hf : X.fn x = true ∨ X.env.scope.names.lookup x = some .local := by first | exact .inl rfl | exact .inr rfl) : DS X W (dAug i fAug d) (.AugAssign (.Name x pos') .Add e pos) := ds_aug i hN (iop_add.or iop_add_str) opd_aug h hi hx hf
theorem ds_augSub (i : Nat) {d : Den} {x : Str} {e : Expr} {pos' pos : Pos} (hN : X.N.Nodup) (h : DE X W d e) (hi : X.N[i]? = some x := by rfl) (hx : Loc X.env.scope x := by first | exact Or.inl rfl | exact Or.inr rfl)
    (hf : X.fn x = true ∨ X.env.scope.names.lookup x = some .local := by first | exact .inl rfl | exact .inr rfl) : DS X W (dAug i fSub d) (.AugAssign (.Name x pos') .Sub e pos) := ds_aug i hN iop_sub opd_sub h hi hx hf
end
end Lp
/-! LpWp: what a denotation gives, by simp: Ok, OkS; loops and comprehensions by invariants. Plain Lean: no program, no heap of the model. -/
namespace Lp
open PySem L2
def Ok {α : Type} (r : R α) (P : α → Mem → Prop) : Prop := match r with
  | .ok a M => P a M
  | _ => False
/-- a statement's end: what follows, a value handed back, break, continue -/
def OkS (r : SR) (N : Env → Mem → Prop) (Rt : D → Mem → Prop) (B C : Env → Mem → Prop) : Prop := match r with
  | .nx ρ M => N ρ M
  | .rt v M => Rt v M
  | .bk ρ M => B ρ M
  | .ct ρ M => C ρ M
  | _ => False
section
variable {α β : Type} {P : α → Mem → Prop} {ρ : Env} {M : Mem} {N : Env → Mem → Prop} {Rt : D → Mem → Prop} {B C : Env → Mem → Prop} {Q : D → Mem → Prop}
theorem Ok.ex {r : R α} (h : Ok r P) : ∃ a M, r = .ok a M ∧ P a M := by
  cases r with
  | ok a M => exact ⟨a, M, rfl, h⟩
  | _ => exact h.elim
theorem Ok.imp {r : R α} {P' : α → Mem → Prop} (h : Ok r P) (hi : ∀ a M, P a M → P' a M) : Ok r P' := by
  cases r with
  | ok a M => exact hi _ _ h
  | _ => exact h.elim
@[simp] theorem ok_ok {a : α} : Ok (.ok a M) P ↔ P a M := Iff.rfl
@[simp] theorem ok_bad : Ok (.bad : R α) P ↔ False := Iff.rfl
@[simp] theorem ok_exc {C : Str} {fs} : Ok (.exc C fs M : R α) P ↔ False := Iff.rfl
@[simp] theorem ok_bind {r : R β} {k : β → Mem → R α} : Ok (r.bind k) P ↔ Ok r fun a M => Ok (k a M) P := by cases r <;> rfl
@[simp] theorem ok_noX {r : R α} : Ok (noX r) P ↔ Ok r P := by cases r <;> rfl
@[simp] theorem ok_lift {d : D} : Ok (lift (some (d, M))) Q ↔ Q d M := Iff.rfl
@[simp] theorem ok_lift0 : Ok (lift none) Q ↔ False := Iff.rfl
@[simp] theorem ok_ite {c : Prop} [Decidable c] {r s : R α} : Ok (if c then r else s) P ↔ if c then Ok r P else Ok s P := by split <;> rfl
@[simp] theorem okS_ite {c : Prop} [Decidable c] {r s : SR} : OkS (if c then r else s) N Rt B C ↔ if c then OkS r N Rt B C else OkS s N Rt B C := by split <;> rfl
@[simp] theorem ok_C {d : D} : Ok (dC d ρ M) Q ↔ Q d M := Iff.rfl
@[simp] theorem ok_var {i : Nat} : Ok (dVar i ρ M) Q ↔ ∃ d, ρ[i]? = some (some d) ∧ Q d M := by
  unfold dVar
  cases ρ[i]? with
  | none => simp
  | some o => cases o <;> simp
@[simp] theorem ok_bin {f} {da db : Den} : Ok (dBin f da db ρ M) Q ↔ Ok (da ρ M) fun x M1 => Ok (db ρ M1) fun y M2 => Ok (lift (f x y M2)) Q := by simp [dBin]
@[simp] theorem ok_un {f} {da : Den} : Ok (dUn f da ρ M) Q ↔ Ok (da ρ M) fun x M1 => ∃ z, f x = some z ∧ Q z M1 := by
  unfold dUn
  rw [ok_bind]
  refine ⟨fun h => h.imp fun a M h => ?_, fun h => h.imp fun a M h => ?_⟩
  · cases e : f a with
    | none => rw [e] at h; exact h.elim
    | some z => rw [e] at h; exact ⟨z, rfl, h⟩
  · obtain ⟨z, e, h⟩ := h
    rw [e]
    exact h
@[simp] theorem ok_tup {d : DenA} : Ok (dTup d ρ M) Q ↔ Ok (d ρ M) fun xs M1 => xs.length ≤ SZ ∧ Q (.tup xs) M1 := by
  unfold dTup
  rw [ok_bind]
  refine ⟨fun h => h.imp fun a M h => ?_, fun h => h.imp fun a M h => ?_⟩
  · rw [ok_ite] at h; split at h
    · exact ⟨by assumption, h⟩
    · exact h.elim
  · rw [if_pos h.1]; exact h.2
@[simp] theorem ok_lst {d : DenA} : Ok (dLst d ρ M) Q ↔ Ok (d ρ M) fun xs M1 => xs.length ≤ SZ ∧ Q (.ref M1.length) (M1 ++ [.lst xs]) := by
  unfold dLst
  rw [ok_bind]
  refine ⟨fun h => h.imp fun a M h => ?_, fun h => h.imp fun a M h => ?_⟩
  · rw [ok_ite] at h; split at h
    · exact ⟨by assumption, h⟩
    · exact h.elim
  · rw [if_pos h.1]; exact h.2
@[simp] theorem ok_nil {P : List D → Mem → Prop} : Ok (dNil ρ M) P ↔ P [] M := Iff.rfl
@[simp] theorem ok_cons {d : Den} {r : DenA} {P : List D → Mem → Prop} : Ok (dCons d r ρ M) P ↔ Ok (d ρ M) fun x M1 => Ok (r ρ M1) fun xs M2 => P (x :: xs) M2 := by simp [dCons]
@[simp] theorem ok_bf {f : Bf} {d : DenA} : Ok (dBf f d ρ M) Q ↔ Ok (d ρ M) fun xs M1 => Ok (lift (f xs M1)) Q := by simp [dBf]
@[simp] theorem ok_chain {f g} {da db dc : Den} : Ok (dChain f g da db dc ρ M) Q ↔ Ok (da ρ M) fun x M1 => Ok (db ρ M1) fun y M2 => Ok (lift (f x y M2)) fun z M3 => ∃ b, z = .bl b ∧ if b = true then Ok (dc ρ M3) fun w M4 => Ok (lift (g y w M4)) Q else Q (.bl false) M3 := by
  unfold dChain
  simp only [ok_bind]
  refine ⟨fun h => h.imp fun x M1 h => h.imp fun y M2 h => h.imp fun z M3 h => ?_, fun h => h.imp fun x M1 h => h.imp fun y M2 h => h.imp fun z M3 h => ?_⟩
  · split at h
    · exact ⟨true, rfl, by rw [ok_bind] at h; simpa using h⟩
    · exact ⟨false, rfl, by simpa using h⟩
    · exact h.elim
  · obtain ⟨b, rfl, h⟩ := h
    cases b with
    | true => simpa using h
    | false => simpa using h
@[simp] theorem ok_tru {da : Den} {P : Bool → Mem → Prop} : Ok (dTru da ρ M) P ↔ Ok (da ρ M) fun x M1 => ∃ b, truO M1 x = some b ∧ P b M1 := by
  unfold dTru
  rw [ok_bind]
  refine ⟨fun h => h.imp fun a M h => ?_, fun h => h.imp fun a M h => ?_⟩
  · cases e : truO M a with
    | none => rw [e] at h; exact h.elim
    | some z => rw [e] at h; exact ⟨z, rfl, h⟩
  · obtain ⟨z, e, h⟩ := h
    rw [e]
    exact h
@[simp] theorem ok_B {da : Den} {P : Bool → Mem → Prop} : Ok (dB da ρ M) P ↔ Ok (da ρ M) fun x M1 => ∃ b, x = .bl b ∧ P b M1 := by
  unfold dB
  rw [ok_bind]
  refine ⟨fun h => h.imp fun a M h => ?_, fun h => h.imp fun a M h => ?_⟩
  · split at h
    · exact ⟨_, rfl, h⟩
    · exact h.elim
  · obtain ⟨b, rfl, h⟩ := h
    exact h
@[simp] theorem ok_notT {d : DenT} {P : Bool → Mem → Prop} : Ok (dNotT d ρ M) P ↔ Ok (d ρ M) fun b M1 => P (!b) M1 := by simp [dNotT]
@[simp] theorem ok_andT {d e : DenT} {P : Bool → Mem → Prop} : Ok (dAndT d e ρ M) P ↔ Ok (d ρ M) fun b M1 => if b = true then Ok (e ρ M1) P else P false M1 := by simp [dAndT]
@[simp] theorem ok_orT {d e : DenT} {P : Bool → Mem → Prop} : Ok (dOrT d e ρ M) P ↔ Ok (d ρ M) fun b M1 => if b = true then P true M1 else Ok (e ρ M1) P := by simp [dOrT]
@[simp] theorem ok_and {d e : Den} : Ok (dAnd d e ρ M) Q ↔ Ok (d ρ M) fun x M1 => ∃ b, truO M1 x = some b ∧ if b = true then Ok (e ρ M1) Q else Q x M1 := by
  unfold dAnd
  rw [ok_bind]
  refine ⟨fun h => h.imp fun a M h => ?_, fun h => h.imp fun a M h => ?_⟩
  · split at h
    · exact ⟨true, by assumption, by simpa using h⟩
    · exact ⟨false, by assumption, by simpa using h⟩
    · exact h.elim
  · obtain ⟨z, e, h⟩ := h
    rw [e]
    cases z with
    | true => simpa using h
    | false => simpa using h
@[simp] theorem ok_or {d e : Den} : Ok (dOr d e ρ M) Q ↔ Ok (d ρ M) fun x M1 => ∃ b, truO M1 x = some b ∧ if b = true then Q x M1 else Ok (e ρ M1) Q := by
  unfold dOr
  rw [ok_bind]
  refine ⟨fun h => h.imp fun a M h => ?_, fun h => h.imp fun a M h => ?_⟩
  · split at h
    · exact ⟨false, by assumption, by simpa using h⟩
    · exact ⟨true, by assumption, by simpa using h⟩
    · exact h.elim
  · obtain ⟨z, e, h⟩ := h
    rw [e]
    cases z with
    | true => simpa using h
    | false => simpa using h
@[simp] theorem ok_not {d : Den} : Ok (dNot d ρ M) Q ↔ Ok (d ρ M) fun x M1 => ∃ b, truO M1 x = some b ∧ Q (.bl (!b)) M1 := by
  unfold dNot
  rw [ok_bind]
  refine ⟨fun h => h.imp fun a M h => ?_, fun h => h.imp fun a M h => ?_⟩
  · cases e : truO M a with
    | none => rw [e] at h; exact h.elim
    | some z => rw [e] at h; exact ⟨z, rfl, h⟩
  · obtain ⟨z, e, h⟩ := h
    rw [e]
    exact h
@[simp] theorem ok_ifE {t : DenT} {d e : Den} : Ok (dIfE t d e ρ M) Q ↔ Ok (t ρ M) fun b M1 => if b = true then Ok (d ρ M1) Q else Ok (e ρ M1) Q := by simp [dIfE]
@[simp] theorem ok_yes {P : Bool → Mem → Prop} : Ok (dYes ρ M) P ↔ P true M := Iff.rfl
@[simp] theorem ok_noPart {P : Option Int → Mem → Prop} : Ok (dNoPart ρ M) P ↔ P none M := Iff.rfl
@[simp] theorem ok_part {d : Den} {P : Option Int → Mem → Prop} : Ok (dPart d ρ M) P ↔ Ok (d ρ M) fun x M1 => ∃ i, x = .int i ∧ P (some i) M1 := by
  unfold dPart
  rw [ok_bind]
  refine ⟨fun h => h.imp fun a M h => ?_, fun h => h.imp fun a M h => ?_⟩
  · split at h
    · exact ⟨_, rfl, h⟩
    · exact h.elim
  · obtain ⟨i, rfl, h⟩ := h
    exact h
@[simp] theorem ok_sl {d : Den} {l u : DenO} : Ok (dSl d l u ρ M) Q ↔ Ok (d ρ M) fun x M1 => Ok (l ρ M1) fun a M2 => Ok (u ρ M2) fun b M3 => Ok (lift (fSl x a b M3)) Q := by simp [dSl]
@[simp] theorem ok_mt {T : String} {f : Mf} {o : Den} {d : DenA} : Ok (dMt T f o d ρ M) Q ↔ Ok (o ρ M) fun x M1 => tyM M1 x = some T ∧ Ok (d ρ M1) fun xs M2 => Ok (lift (f x xs M2)) Q := by
  unfold dMt
  rw [ok_bind]
  refine ⟨fun h => h.imp fun a M h => ?_, fun h => h.imp fun a M h => ?_⟩
  · rw [ok_ite] at h; split at h
    · exact ⟨by assumption, by simpa using h⟩
    · exact h.elim
  · rw [if_pos h.1]; simpa using h.2
@[simp] theorem ok_call {n : Nat} {F : Fn} {d : DenA} : Ok (dCall n F d ρ M) Q ↔ Ok (d ρ M) fun xs M1 => xs.length = n ∧ Ok (F xs M1) Q := by
  unfold dCall
  rw [ok_bind]
  refine ⟨fun h => h.imp fun a M h => ?_, fun h => h.imp fun a M h => ?_⟩
  · rw [ok_ite] at h; split at h
    · exact ⟨by assumption, h⟩
    · exact h.elim
  · rw [if_pos h.1]; exact h.2
@[simp] theorem ok_callK {n m : Nat} {p : List Nat} {F : Fn} {d e : DenA} : Ok (dCallK n m p F d e ρ M) Q ↔ Ok (d ρ M) fun xs M1 => Ok (e ρ M1) fun ys M2 => (xs.length = n ∧ ys.length = m ∧ p.length = (pick p (xs ++ ys)).length) ∧ Ok (F (pick p (xs ++ ys)) M2) Q := by
  unfold dCallK
  simp only [ok_bind]
  refine ⟨fun h => h.imp fun a M h => h.imp fun b M2 h => ?_, fun h => h.imp fun a M h => h.imp fun b M2 h => ?_⟩
  · rw [ok_ite] at h; split at h
    · exact ⟨by assumption, h⟩
    · exact h.elim
  · rw [if_pos h.1]; exact h.2
@[simp] theorem ok_den {n : Nat} {d : DenS} {ds : List D} : Ok (fnOfDen n d ds M) Q ↔ OkS (d (startE n ds) M) (fun _ M => Q .non M) Q (fun _ _ => False) (fun _ _ => False) := by
  unfold fnOfDen
  cases d (startE n ds) M <;> rfl
/-! statements -/
theorem OkS.imp {r : SR} {N' : Env → Mem → Prop} {Rt' : D → Mem → Prop} {B' C' : Env → Mem → Prop} (h : OkS r N Rt B C) (h1 : ∀ ρ M, N ρ M → N' ρ M) (h2 : ∀ v M, Rt v M → Rt' v M) (h3 : ∀ ρ M, B ρ M → B' ρ M) (h4 : ∀ ρ M, C ρ M → C' ρ M) : OkS r N' Rt' B' C' := by
  cases r with
  | nx ρ M => exact h1 _ _ h
  | rt v M => exact h2 _ _ h
  | bk ρ M => exact h3 _ _ h
  | ct ρ M => exact h4 _ _ h
  | _ => exact h.elim
@[simp] theorem okS_toS {r : R α} {k : α → Mem → SR} : OkS (toS r ρ k) N Rt B C ↔ Ok r fun a M => OkS (k a M) N Rt B C := by cases r <;> rfl
@[simp] theorem okS_nx : OkS (.nx ρ M) N Rt B C ↔ N ρ M := Iff.rfl
@[simp] theorem okS_rt {v : D} : OkS (.rt v M) N Rt B C ↔ Rt v M := Iff.rfl
@[simp] theorem okS_bk : OkS (.bk ρ M) N Rt B C ↔ B ρ M := Iff.rfl
@[simp] theorem okS_ct : OkS (.ct ρ M) N Rt B C ↔ C ρ M := Iff.rfl
@[simp] theorem okS_bad : OkS .bad N Rt B C ↔ False := Iff.rfl
@[simp] theorem okS_seq {d e : DenS} : OkS (dSeq d e ρ M) N Rt B C ↔ OkS (d ρ M) (fun ρ M => OkS (e ρ M) N Rt B C) Rt B C := by
  unfold dSeq
  cases d ρ M <;> rfl
@[simp] theorem okS_skip : OkS (dSkip ρ M) N Rt B C ↔ N ρ M := Iff.rfl
@[simp] theorem okS_brk : OkS (dBrk ρ M) N Rt B C ↔ B ρ M := Iff.rfl
@[simp] theorem okS_cnt : OkS (dCnt ρ M) N Rt B C ↔ C ρ M := Iff.rfl
@[simp] theorem okS_never : OkS (dNever ρ M) N Rt B C ↔ False := Iff.rfl
@[simp] theorem okS_ret {d : Den} : OkS (dRet d ρ M) N Rt B C ↔ Ok (d ρ M) Rt := by simp [dRet]
@[simp] theorem okS_retN : OkS (dRetN ρ M) N Rt B C ↔ Rt .non M := Iff.rfl
@[simp] theorem okS_drop {d : Den} : OkS (dDrop d ρ M) N Rt B C ↔ Ok (d ρ M) fun _ M1 => N ρ M1 := by simp [dDrop]
@[simp] theorem okS_if {t : DenT} {d e : DenS} : OkS (dIf t d e ρ M) N Rt B C ↔ Ok (t ρ M) fun b M1 => if b = true then OkS (d ρ M1) N Rt B C else OkS (e ρ M1) N Rt B C := by simp [dIf]
@[simp] theorem okS_bindS {o : Option Env} : OkS (bindS o M) N Rt B C ↔ ∃ ρ', o = some ρ' ∧ N ρ' M := by cases o <;> simp [bindS]
@[simp] theorem okS_asg {d : Den} {b : Bd} : OkS (dAsg d b ρ M) N Rt B C ↔ Ok (d ρ M) fun x M1 => ∃ ρ', b x ρ M1 = some ρ' ∧ N ρ' M1 := by simp [dAsg]
@[simp] theorem bName_at {i : Nat} {x : D} : bName i x ρ M = some (ρ.set i (some x)) := rfl
@[simp] theorem bTup_at {n : Nat} {b : Bds} {xs : List D} : bTup n b (.tup xs) ρ M = if xs.length = n then b xs ρ M else none := rfl
@[simp] theorem bNil_at : bNil [] ρ M = some ρ := rfl
@[simp] theorem bCons_at {b : Bd} {r : Bds} {x : D} {xs : List D} : bCons b r (x :: xs) ρ M = (b x ρ M).bind fun ρ1 => r xs ρ1 M := by
  show (match b x ρ M with | some ρ1 => r xs ρ1 M | none => none) = _
  cases b x ρ M <;> rfl
@[simp] theorem okS_par {is : List Nat} {d : DenA} : OkS (dPar is d ρ M) N Rt B C ↔ Ok (d ρ M) fun xs M1 => ∃ ρ', setAll is xs ρ = some ρ' ∧ N ρ' M1 := by simp [dPar]
@[simp] theorem setAll_nil : setAll [] [] ρ = some ρ := rfl
@[simp] theorem setAll_cons {i : Nat} {is : List Nat} {x : D} {xs : List D} : setAll (i :: is) (x :: xs) ρ = setAll is xs (ρ.set i (some x)) := rfl
@[simp] theorem okS_setIx {dv dO di : Den} : OkS (dSetIx dv dO di ρ M) N Rt B C ↔ Ok (dv ρ M) fun v M1 => Ok (dO ρ M1) fun o M2 => Ok (di ρ M2) fun i M3 => ∃ M4, stIx o i v M3 = some M4 ∧ N ρ M4 := by
  unfold dSetIx
  simp only [okS_toS]
  refine ⟨fun h => h.imp fun _ _ h => h.imp fun _ _ h => h.imp fun i M3 h => ?_, fun h => h.imp fun _ _ h => h.imp fun _ _ h => h.imp fun i M3 h => ?_⟩
  · split at h
    · exact ⟨_, by assumption, h⟩
    · exact h.elim
  · obtain ⟨M4, e, h⟩ := h
    rw [e]
    exact h
@[simp] theorem okS_aug {i : Nat} {f} {d : Den} : OkS (dAug i f d ρ M) N Rt B C ↔ ∃ x, ρ[i]? = some (some x) ∧ Ok (d ρ M) fun y M1 => Ok (lift (f x y M1)) fun z M2 => N (ρ.set i (some z)) M2 := by
  unfold dAug
  cases e : ρ[i]? with
  | none => simp
  | some o =>
    cases o with
    | none => simp
    | some x =>
      simp only [okS_toS, Option.some.injEq, exists_eq_left']
      refine ⟨fun h => h.imp fun y M1 h => ?_, fun h => h.imp fun y M1 h => ?_⟩
      · cases e2 : f x y M1 with
        | none => rw [e2] at h; exact h.elim
        | some p => rw [e2] at h; exact h
      · cases e2 : f x y M1 with
        | none => rw [e2] at h; exact h.elim
        | some p => rw [e2] at h; exact h
/-! loops -/
@[simp] theorem ok_range1 {d : DenA} {P : Nat × Step → Mem → Prop} : Ok (dRange1 d ρ M) P ↔ Ok (d ρ M) fun xs M1 => ∃ j, xs = [.int j] ∧ (-P62 ≤ j ∧ j < P62) ∧ P (rangeStep 0 j.toNat) M1 := by
  unfold dRange1
  rw [ok_bind]
  refine ⟨fun h => h.imp fun xs M h => ?_, fun h => h.imp fun xs M h => ?_⟩
  · split at h
    · rw [ok_ite] at h; split at h
      · exact ⟨_, rfl, by assumption, h⟩
      · exact h.elim
    · exact h.elim
  · obtain ⟨j, rfl, h1, h⟩ := h
    show Ok (if -P62 ≤ j ∧ j < P62 then .ok (rangeStep 0 j.toNat) M else .bad) P
    rw [if_pos h1]
    exact h
@[simp] theorem ok_range2 {d : DenA} {P : Nat × Step → Mem → Prop} : Ok (dRange2 d ρ M) P ↔ Ok (d ρ M) fun xs M1 => ∃ i j, xs = [.int i, .int j] ∧ (-P62 ≤ i ∧ i < P62 ∧ -P62 ≤ j ∧ j < P62) ∧ P (rangeStep i (j - i).toNat) M1 := by
  unfold dRange2
  rw [ok_bind]
  refine ⟨fun h => h.imp fun xs M h => ?_, fun h => h.imp fun xs M h => ?_⟩
  · split at h
    · rw [ok_ite] at h; split at h
      · exact ⟨_, _, rfl, by assumption, h⟩
      · exact h.elim
    · exact h.elim
  · obtain ⟨i, j, rfl, h1, h⟩ := h
    show Ok (if -P62 ≤ i ∧ i < P62 ∧ -P62 ≤ j ∧ j < P62 then .ok (rangeStep i (j - i).toNat) M else .bad) P
    rw [if_pos h1]
    exact h
@[simp] theorem ok_seqI {d : Den} {P : Nat × Step → Mem → Prop} : Ok (dSeqI d ρ M) P ↔ Ok (d ρ M) fun x M1 => ∃ p, seqStep x M1 = some p ∧ P p M1 := by
  unfold dSeqI
  rw [ok_bind]
  refine ⟨fun h => h.imp fun x M h => ?_, fun h => h.imp fun x M h => ?_⟩
  · cases e : seqStep x M with
    | none => rw [e] at h; exact h.elim
    | some p => rw [e] at h; exact ⟨p, rfl, h⟩
  · obtain ⟨p, e, h⟩ := h
    rw [e]
    exact h
/-- THE RULE of a for, by an invariant of the turn: n turns -/
theorem forIt_ok {st : Step} {b : Bd} {body : DenS} (J : Nat → Env → Mem → Prop) (n : Nat)
    (turn : ∀ i ρ M, i < n → J i ρ M → ∃ x ρ1, st i M = some (some x) ∧ b x ρ M = some ρ1 ∧ OkS (body ρ1 M) (J (i + 1)) Rt N (J (i + 1)))
    (done : ∀ ρ M, J n ρ M → st n M = some none ∧ N ρ M) : ∀ (fuel i : Nat) (ρ : Env) (M : Mem), n < i + fuel → i ≤ n → J i ρ M → OkS (forIt st b body fuel i ρ M) N Rt B C := by
  intro fuel
  induction fuel with
  | zero => intro i ρ M h1 h2; omega
  | succ f ih =>
    intro i ρ M h1 h2 hJ
    unfold forIt
    by_cases hi : i < n
    · obtain ⟨x, ρ1, e1, e2, hb⟩ := turn i ρ M hi hJ
      rw [e1]
      simp only [e2]
      cases ec : body ρ1 M with
      | nx ρ2 M2 => rw [ec] at hb; exact ih (i + 1) ρ2 M2 (by omega) hi hb
      | ct ρ2 M2 => rw [ec] at hb; exact ih (i + 1) ρ2 M2 (by omega) hi hb
      | bk ρ2 M2 => rw [ec] at hb; exact hb
      | rt v M2 => rw [ec] at hb; exact hb
      | exc C fs ρ2 M2 => rw [ec] at hb; exact hb.elim
      | bad => rw [ec] at hb; exact hb.elim
    · have e : i = n := by omega
      subst e
      obtain ⟨e1, h⟩ := done ρ M hJ
      rw [e1]
      exact h
theorem okS_for {d : DenI} {b : Bd} {body : DenS} (h : Ok (d ρ M) fun p M1 => OkS (forIt p.2 b body p.1 0 ρ M1) N Rt B C) : OkS (dFor d b body ρ M) N Rt B C := by
  unfold dFor
  rw [okS_toS]
  exact h
/-- over range(n) -/
theorem for_range_ok {b : Bd} {body : DenS} {lo : Int} {n : Nat} (J : Nat → Env → Mem → Prop) (h0 : J 0 ρ M) (turn : ∀ i ρ M, i < n → J i ρ M → ∃ ρ1, b (.int (lo + i)) ρ M = some ρ1 ∧ OkS (body ρ1 M) (J (i + 1)) Rt N (J (i + 1)))
    (done : ∀ ρ M, J n ρ M → N ρ M) : OkS (forIt (rangeStep lo n).2 b body (rangeStep lo n).1 0 ρ M) N Rt B C := by
  refine forIt_ok J n (fun i ρ M hi hJ => ?_) (fun ρ M hJ => ⟨?_, done ρ M hJ⟩) _ 0 ρ M (by show n < 0 + (n + 1); omega) (Nat.zero_le _) h0
  · obtain ⟨ρ1, h1, h2⟩ := turn i ρ M hi hJ
    exact ⟨.int (lo + i), ρ1, by show some (if i < n then some (D.int (lo + i)) else none) = _; rw [if_pos hi], h1, h2⟩
  · show some (if n < n then some (D.int (lo + n)) else none) = _
    rw [if_neg (Nat.lt_irrefl n)]
/-- comprehensions: what is made so far -/
theorem lcIt_ok {st : Step} {b : Bd} {t : DenT} {e : Den} {l : Nat} (J : Nat → List D → Mem → Prop) (n : Nat)
    (turn : ∀ i acc M, i < n → M[l]? = some (.lst acc) → J i acc M → acc.length < SZ ∧ ∃ x ρ1, st i M = some (some x) ∧ b x ρ M = some ρ1 ∧ Ok (t ρ1 M) fun ok M1 => if ok = true then Ok (e ρ1 M1) fun y M2 => M2[l]? = some (.lst acc) ∧ J (i + 1) (acc ++ [y]) (M2.set l (.lst (acc ++ [y]))) else M1[l]? = some (.lst acc) ∧ J (i + 1) acc M1)
    (done : ∀ acc M, M[l]? = some (.lst acc) → J n acc M → st n M = some none ∧ Q (.ref l) M) : ∀ (fuel i : Nat) (acc : List D) (M : Mem), n < i + fuel → i ≤ n → M[l]? = some (.lst acc) → J i acc M → Ok (lcIt st b t e l fuel i ρ M) Q := by
  intro fuel
  induction fuel with
  | zero => intro i acc M h1 h2; omega
  | succ f ih =>
    intro i acc M h1 h2 hl hJ
    unfold lcIt
    by_cases hi : i < n
    · obtain ⟨hz, x, ρ1, e1, e2, hb⟩ := turn i acc M hi hl hJ
      rw [e1]
      simp only [e2, ok_bind, ok_noX]
      refine hb.imp fun ok M1 hb => ?_
      cases ok with
      | false =>
        simp only [Bool.false_eq_true, if_false] at hb ⊢
        exact ih (i + 1) acc M1 (by omega) hi hb.1 hb.2
      | true =>
        simp only [if_true] at hb ⊢
        simp only [ok_bind, ok_noX]
        refine hb.imp fun y M2 hb => ?_
        obtain ⟨h3, h4⟩ := hb
        simp only [h3]
        rw [if_pos hz]
        have hlt : l < M2.length := (List.getElem?_eq_some_iff.mp h3).1
        exact ih (i + 1) _ _ (by omega) hi (List.getElem?_set_self hlt) h4
    · have e : i = n := by omega
      subst e
      obtain ⟨e1, h⟩ := done acc M hl hJ
      rw [e1]
      exact h
/-- elements that touch no memory -/
theorem lc_pure {d : DenI} {b : Bd} {e : Den} {vs : List Nat} {st : Step} {n : Nat} {f : Nat} (g : Nat → D) (hd : d ρ M = .ok (f, st) M) (hf : n < f) (hn : n ≤ SZ) (hst : ∀ i M', i < n → ∃ x ρ1, st i (M ++ [.lst M']) = some (some x) ∧ b x (wipeE ρ vs) (M ++ [.lst M']) = some ρ1 ∧ e ρ1 (M ++ [.lst M']) = .ok (g i) (M ++ [.lst M']))
    (hend : ∀ M', st n (M ++ [.lst M']) = some none) : dLc d b dYes e vs ρ M = .ok (.ref M.length) (M ++ [.lst ((List.range n).map g)]) := by
  have key : Ok (dLc d b dYes e vs ρ M) fun v M' => v = .ref M.length ∧ M' = M ++ [.lst ((List.range n).map g)] := by
    unfold dLc
    rw [hd]
    show Ok (lcIt st b dYes e M.length f 0 (wipeE ρ vs) (M ++ [.lst []])) _
    refine lcIt_ok (fun i acc M' => M' = M ++ [.lst ((List.range i).map g)] ∧ acc = (List.range i).map g) n (fun i acc M1 hi hl hJ => ?_) (fun acc M1 hl hJ => ?_) f 0 [] _ (by omega) (Nat.zero_le _) (by simp) ⟨by simp, by simp⟩
    · obtain ⟨rfl, rfl⟩ := hJ
      obtain ⟨x, ρ1, e1, e2, e3⟩ := hst i ((List.range i).map g) hi
      refine ⟨by simp; omega, x, ρ1, e1, e2, ?_⟩
      simp only [ok_yes, if_true, e3, ok_ok]
      refine ⟨by simp, by simp [List.range_succ], by simp [List.range_succ]⟩
    · obtain ⟨rfl, rfl⟩ := hJ
      exact ⟨hend _, rfl, rfl⟩
  obtain ⟨a, M', e1, e2, e3⟩ := key.ex
  rw [e1, e2, e3]
theorem ok_lc {d : DenI} {b : Bd} {t : DenT} {e : Den} {vs : List Nat} (h : Ok (d ρ M) fun p M1 => Ok (lcIt p.2 b t e M1.length p.1 0 (wipeE ρ vs) (M1 ++ [.lst []])) Q) : Ok (dLc d b t e vs ρ M) Q := by
  unfold dLc
  rw [ok_bind]
  exact h
end
end Lp
/-! LpLaw: the helpers that every law has: the bag of numbers and what is drawn from it. Plain Lean. -/
namespace Lp
open PySem L2
/-! ### evaluation -/
section
variable {M : Mem}
theorem fEq_int {i j : Int} : fEq (.int i) (.int j) M = some (.bl (i == j), M) := rfl
theorem fNe_int {i j : Int} : fNe (.int i) (.int j) M = some (.bl (!(i == j)), M) := rfl
theorem fLt_int {i j : Int} : fLt (.int i) (.int j) M = some (.bl (decide (i < j)), M) := rfl
theorem fLe_int {i j : Int} : fLe (.int i) (.int j) M = some (.bl (decide (i ≤ j)), M) := rfl
theorem fGt_int {i j : Int} : fGt (.int i) (.int j) M = some (.bl (decide (j < i)), M) := rfl
theorem fGe_int {i j : Int} : fGe (.int i) (.int j) M = some (.bl (decide (j ≤ i)), M) := rfl
theorem fAdd_int {i j : Int} : fAdd (.int i) (.int j) M = some (.int (i + j), M) := rfl
theorem fSub_int {i j : Int} : fSub (.int i) (.int j) M = some (.int (i - j), M) := rfl
theorem fMul_int {i j : Int} (h : (-P64 < i ∧ i < P64) ∨ (-P64 < j ∧ j < P64)) : fMulA (.int i) (.int j) M = some (.int (i * j), M) := by
  show (if cMul i j = true then some (D.int (i * j), M) else none) = _
  rw [if_pos (by exact decide_eq_true h)]
theorem fDiv_int {i j : Int} (h : 0 < j ∧ j < 1073741824) : fDiv (.int i) (.int j) M = some (.int (i / j), M) := by
  show (if cDiv i j = true then some (D.int (i / j), M) else none) = _
  rw [if_pos (by exact decide_eq_true h)]
theorem fMod_int {i j : Int} (h : 0 < j) : fMod (.int i) (.int j) M = some (.int (i % j), M) := by
  show (if cMod i j = true then some (D.int (i % j), M) else none) = _
  rw [if_pos (by exact decide_eq_true h)]
theorem fPow_int {i j : Int} (h : 0 ≤ j ∧ j ≤ 1000000 ∧ i.natAbs < 18446744073709551616) : fPow (.int i) (.int j) M = some (.int (i ^ j.toNat), M) := by
  show (if cPow i j = true then some (D.int (i ^ j.toNat), M) else none) = _
  rw [if_pos (by exact decide_eq_true h)]
theorem atI_lt {xs : List D} {j : Nat} (h : j < xs.length) : atI xs (j : Int) = some xs[j] := by
  unfold atI ixN
  simp [h]
theorem fIx_ref {a : Nat} {xs : List D} {i : Int} (h : M[a]? = some (.lst xs)) : fIx (.ref a) (.int i) M = (atI xs i).map fun x => (x, M) := by
  simp only [fIx, h]
theorem fLen_ref {a : Nat} {xs : List D} (h : M[a]? = some (.lst xs)) : fLen [.ref a] M = some (.int xs.length, M) := by
  simp only [fLen, seqO, h]
  rfl
theorem stIx_ref {a : Nat} {xs : List D} {i : Int} {v : D} (h : M[a]? = some (.lst xs)) : stIx (.ref a) (.int i) v M = (ixN xs.length i).map fun j => M.set a (.lst (xs.set j v)) := by
  simp only [stIx, h]
end
/-! ### frames -/
/-- all that stood still stands, save what lies at b -/
structure Fr (b : Nat) (M M' : Mem) : Prop where
  len : M.length ≤ M'.length
  old : ∀ i, i < M.length → i ≠ b → M'[i]? = M[i]?
theorem Fr.refl {b : Nat} {M : Mem} : Fr b M M := ⟨Nat.le_refl _, fun _ _ _ => rfl⟩
theorem Fr.trans {b : Nat} {M M1 M2 : Mem} (h : Fr b M M1) (k : Fr b M1 M2) : Fr b M M2 := ⟨Nat.le_trans h.len k.len, fun i hi hb => (k.old i (Nat.lt_of_lt_of_le hi h.len) hb).trans (h.old i hi hb)⟩
theorem Fr.set {b : Nat} {M : Mem} {o : MO} : Fr b M (M.set b o) := ⟨by simp, fun i hi hb => List.getElem?_set_ne (fun e => hb e.symm)⟩
theorem Fr.app {b : Nat} {M t : Mem} : Fr b M (M ++ t) := ⟨by simp, fun i hi hb => List.getElem?_append_left hi⟩
theorem Fr.at_ {b : Nat} {M M' : Mem} (h : Fr b M M') {i : Nat} {o : MO} (e : M[i]? = some o) (hi : i ≠ b) : M'[i]? = some o := by
  rw [h.old i (List.getElem?_eq_some_iff.mp e).1 hi]
  exact e
/-- the bag -/
structure BagF (M : Mem) (b c : Nat) (p q salt n : Int) (ns : List Int) : Prop where
  at_b : M[b]? = some (.lst [.ref c, .int p, .int q, .int salt, .int n])
  at_c : M[c]? = some (.lst (ns.map .int))
  ne : c ≠ b
  p0 : 0 ≤ p
  q0 : 0 ≤ q
  s0 : 0 ≤ salt
  s1 : salt < 2147483647
def Bag (M : Mem) (b c : Nat) : Prop := ∃ p q salt n ns, BagF M b c p q salt n ns
section
variable {M : Mem} {b c : Nat} {p q salt n : Int} {ns : List Int}
theorem BagF.lt (h : BagF M b c p q salt n ns) : b < M.length := (List.getElem?_eq_some_iff.mp h.at_b).1
theorem Bag.lt (h : Bag M b c) : b < M.length := by
  obtain ⟨p, q, salt, n, ns, h⟩ := h
  exact h.lt
theorem BagF.ix0 (h : BagF M b c p q salt n ns) : fIx (.ref b) (.int 0) M = some (.ref c, M) := by rw [fIx_ref h.at_b]; rfl
theorem BagF.ix1 (h : BagF M b c p q salt n ns) : fIx (.ref b) (.int 1) M = some (.int p, M) := by rw [fIx_ref h.at_b]; rfl
theorem BagF.ix2 (h : BagF M b c p q salt n ns) : fIx (.ref b) (.int 2) M = some (.int q, M) := by rw [fIx_ref h.at_b]; rfl
theorem BagF.ix3 (h : BagF M b c p q salt n ns) : fIx (.ref b) (.int 3) M = some (.int salt, M) := by rw [fIx_ref h.at_b]; rfl
theorem BagF.ix4 (h : BagF M b c p q salt n ns) : fIx (.ref b) (.int 4) M = some (.int n, M) := by rw [fIx_ref h.at_b]; rfl
theorem BagF.put (h : BagF M b c p q salt n ns) {p' q' salt' n' : Int} (h1 : 0 ≤ p') (h2 : 0 ≤ q') (h3 : 0 ≤ salt') (h4 : salt' < 2147483647) : BagF (M.set b (.lst [.ref c, .int p', .int q', .int salt', .int n'])) b c p' q' salt' n' ns :=
  ⟨List.getElem?_set_self h.lt, by rw [List.getElem?_set_ne (fun e => h.ne e.symm)]; exact h.at_c, h.ne, h1, h2, h3, h4⟩
theorem BagF.st1 (h : BagF M b c p q salt n ns) {x : Int} (hx : 0 ≤ x) : ∃ M', stIx (.ref b) (.int 1) (.int x) M = some M' ∧ Fr b M M' ∧ BagF M' b c x q salt n ns := ⟨_, by rw [stIx_ref h.at_b]; rfl, Fr.set, h.put hx h.q0 h.s0 h.s1⟩
theorem BagF.st2 (h : BagF M b c p q salt n ns) {x : Int} (hx : 0 ≤ x) : ∃ M', stIx (.ref b) (.int 2) (.int x) M = some M' ∧ Fr b M M' ∧ BagF M' b c p x salt n ns := ⟨_, by rw [stIx_ref h.at_b]; rfl, Fr.set, h.put h.p0 hx h.s0 h.s1⟩
theorem BagF.st3 (h : BagF M b c p q salt n ns) {x : Int} (hx : 0 ≤ x) (hy : x < 2147483647) : ∃ M', stIx (.ref b) (.int 3) (.int x) M = some M' ∧ Fr b M M' ∧ BagF M' b c p q x n ns := ⟨_, by rw [stIx_ref h.at_b]; rfl, Fr.set, h.put h.p0 h.q0 hx hy⟩
theorem BagF.st4 (h : BagF M b c p q salt n ns) {x : Int} : ∃ M', stIx (.ref b) (.int 4) (.int x) M = some M' ∧ Fr b M M' ∧ BagF M' b c p q salt x ns := ⟨_, by rw [stIx_ref h.at_b]; rfl, Fr.set, h.put h.p0 h.q0 h.s0 h.s1⟩
theorem Bag.ltc (h : Bag M b c) : c < M.length := by
  obtain ⟨p, q, salt, n, ns, h⟩ := h
  exact (List.getElem?_eq_some_iff.mp h.at_c).1
theorem Bag.set (h : Bag M b c) {l : Nat} {o : MO} (h1 : l ≠ b) (h2 : l ≠ c) : Bag (M.set l o) b c := by
  obtain ⟨p, q, salt, n, ns, h⟩ := h
  exact ⟨p, q, salt, n, ns, by rw [List.getElem?_set_ne h1]; exact h.at_b, by rw [List.getElem?_set_ne h2]; exact h.at_c, h.ne, h.p0, h.q0, h.s0, h.s1⟩
theorem Bag.app (h : Bag M b c) {t : Mem} : Bag (M ++ t) b c := by
  obtain ⟨p, q, salt, n, ns, h⟩ := h
  exact ⟨p, q, salt, n, ns, (Fr.app (b := c)).at_ h.at_b h.ne.symm, (Fr.app (b := b)).at_ h.at_c h.ne, h.ne, h.p0, h.q0, h.s0, h.s1⟩
end
/-- the script, as data -/
def script (ns : List Int) : D := .ro (ns.map .int)
/-! ### drawing -/
abbrev Tbl := String → Fn
def h_pull (T : Tbl) : DenS :=
  (dSeq (dIf (dAndT (dB (dBin fEq (dBin fIx (dVar 0) (dC (.int 2))) (dC (.int 0)))) (dB (dBin fLt (dBin fIx (dVar 0) (dC (.int 1))) (dBf fLen (dCons (dBin fIx (dVar 0) (dC (.int 0))) dNil))))) (dSeq (dAsg (dBin fIx (dBin fIx (dVar 0) (dC (.int 0))) (dBin fIx (dVar 0) (dC (.int 1)))) (bName 3))
  (dSeq (dSetIx (dBin fAdd (dBin fIx (dVar 0) (dC (.int 1))) (dC (.int 1))) (dVar 0) (dC (.int 1)))
  (dIf (dB (dBin fGe (dVar 3) (dBin fPow (dC (.int 10)) (dC (.int 18))))) (dSetIx (dVar 3) (dVar 0) (dC (.int 2))) (dSetIx (dBin fMod (dBin fAdd (dBin fAdd (dBin fMulA (dBin fIx (dVar 0) (dC (.int 3))) (dC (.int 37987))) (dBin fMod (dVar 3) (dC (.int 2147483579)))) (dC (.int 17))) (dC (.int 2147483647))) (dVar 0) (dC (.int 3)))))) dSkip)
  (dSeq (dIf (dB (dBin fGt (dBin fIx (dVar 0) (dC (.int 2))) (dC (.int 0)))) (dSeq (dAsg (dBin fMod (dBin fIx (dVar 0) (dC (.int 2))) (dVar 1)) (bName 4))
  (dSeq (dSetIx (dBin fDiv (dBin fIx (dVar 0) (dC (.int 2))) (dVar 1)) (dVar 0) (dC (.int 2)))
  (dRet (dVar 4)))) dSkip)
  (dSeq (dSetIx (dBin fAdd (dBin fIx (dVar 0) (dC (.int 4))) (dC (.int 1))) (dVar 0) (dC (.int 4)))
  (dSeq (dAsg (dBin fMod (dBin fAdd (dBin fIx (dVar 0) (dC (.int 3))) (dBin fMulA (dBin fIx (dVar 0) (dC (.int 4))) (dC (.int 7019)))) (dC (.int 2147483647))) (bName 2))
  (dSeq (dSetIx (dBin fMod (dBin fAdd (dBin fAdd (dBin fPow (dVar 2) (dC (.int 3))) (dBin fMulA (dC (.int 29989)) (dVar 2))) (dC (.int 2011))) (dC (.int 2147483647))) (dVar 0) (dC (.int 3)))
  (dRet (dBin fMod (dBin fAdd (dBin fDiv (dBin fIx (dVar 0) (dC (.int 3))) (dC (.int 71))) (dBin fMulA (dBin fMod (dBin fIx (dVar 0) (dC (.int 3))) (dC (.int 7907))) (dC (.int 47)))) (dVar 1))))))))
/-- what a draw is -/
def PullS (F : Fn) : Prop := ∀ (M : Mem) (b c : Nat) (s : Int) (Q : D → Mem → Prop), Bag M b c → 0 < s → s < 1073741824 → (∀ (r : Int) (M' : Mem), 0 ≤ r → r < s → Bag M' b c → Fr b M M' → Q (.int r) M') → Ok (F [.ref b, .int s] M) Q
def h_pullA : DenS :=
  (dIf (dAndT (dB (dBin fEq (dBin fIx (dVar 0) (dC (.int 2))) (dC (.int 0)))) (dB (dBin fLt (dBin fIx (dVar 0) (dC (.int 1))) (dBf fLen (dCons (dBin fIx (dVar 0) (dC (.int 0))) dNil))))) (dSeq (dAsg (dBin fIx (dBin fIx (dVar 0) (dC (.int 0))) (dBin fIx (dVar 0) (dC (.int 1)))) (bName 3))
  (dSeq (dSetIx (dBin fAdd (dBin fIx (dVar 0) (dC (.int 1))) (dC (.int 1))) (dVar 0) (dC (.int 1)))
  (dIf (dB (dBin fGe (dVar 3) (dBin fPow (dC (.int 10)) (dC (.int 18))))) (dSetIx (dVar 3) (dVar 0) (dC (.int 2))) (dSetIx (dBin fMod (dBin fAdd (dBin fAdd (dBin fMulA (dBin fIx (dVar 0) (dC (.int 3))) (dC (.int 37987))) (dBin fMod (dVar 3) (dC (.int 2147483579)))) (dC (.int 17))) (dC (.int 2147483647))) (dVar 0) (dC (.int 3)))))) dSkip)
def h_pullB : DenS :=
  (dIf (dB (dBin fGt (dBin fIx (dVar 0) (dC (.int 2))) (dC (.int 0)))) (dSeq (dAsg (dBin fMod (dBin fIx (dVar 0) (dC (.int 2))) (dVar 1)) (bName 4))
  (dSeq (dSetIx (dBin fDiv (dBin fIx (dVar 0) (dC (.int 2))) (dVar 1)) (dVar 0) (dC (.int 2)))
  (dRet (dVar 4)))) dSkip)
def h_pullC : DenS :=
  (dSeq (dSetIx (dBin fAdd (dBin fIx (dVar 0) (dC (.int 4))) (dC (.int 1))) (dVar 0) (dC (.int 4)))
  (dSeq (dAsg (dBin fMod (dBin fAdd (dBin fIx (dVar 0) (dC (.int 3))) (dBin fMulA (dBin fIx (dVar 0) (dC (.int 4))) (dC (.int 7019)))) (dC (.int 2147483647))) (bName 2))
  (dSeq (dSetIx (dBin fMod (dBin fAdd (dBin fAdd (dBin fPow (dVar 2) (dC (.int 3))) (dBin fMulA (dC (.int 29989)) (dVar 2))) (dC (.int 2011))) (dC (.int 2147483647))) (dVar 0) (dC (.int 3)))
  (dRet (dBin fMod (dBin fAdd (dBin fDiv (dBin fIx (dVar 0) (dC (.int 3))) (dC (.int 71))) (dBin fMulA (dBin fMod (dBin fIx (dVar 0) (dC (.int 3))) (dC (.int 7907))) (dC (.int 47)))) (dVar 1))))))
section
variable {M : Mem} {b c : Nat} {p q salt n s : Int} {ns : List Int} {Q : D → Mem → Prop} {N B C : Env → Mem → Prop}
theorem pullC_ok {x y z : Option D} (hB : BagF M b c p q salt n ns) (h0 : 0 < s) (hQ : ∀ (r : Int) (M' : Mem), 0 ≤ r → r < s → Bag M' b c → Fr b M M' → Q (.int r) M') : OkS (h_pullC [some (.ref b), some (.int s), x, y, z] M) N Q B C := by
  unfold h_pullC
  obtain ⟨M1, e1, f1, b1⟩ := hB.st4 (x := n + 1)
  simp only [okS_seq, ok_bin, ok_var, ok_C, okS_asg, bName_at, okS_setIx, okS_ret, ok_lift, List.getElem?_cons_zero, List.getElem?_cons_succ, Option.some.injEq, exists_eq_left', List.set_cons_succ, List.set_cons_zero, hB.ix4, fAdd_int, e1, b1.ix3, b1.ix4, fMul_int (.inr (by decide : -P64 < (7019 : Int) ∧ (7019 : Int) < P64)), fMod_int (by decide : (0 : Int) < 2147483647)]
  have hm0 := Int.emod_nonneg (salt + (n + 1) * 7019) (by decide : (2147483647 : Int) ≠ 0)
  have hm1 := Int.emod_lt_of_pos (salt + (n + 1) * 7019) (by decide : (0 : Int) < 2147483647)
  generalize (salt + (n + 1) * 7019) % 2147483647 = m at hm0 hm1 ⊢
  simp only [fPow_int (i := m) (j := 3) ⟨by decide, by decide, by omega⟩, ok_lift, fMul_int (i := 29989) (j := m) (.inl (by decide)), fAdd_int, fMod_int (by decide : (0 : Int) < 2147483647)]
  have hs0 := Int.emod_nonneg (m ^ (3 : Int).toNat + 29989 * m + 2011) (by decide : (2147483647 : Int) ≠ 0)
  have hs1 := Int.emod_lt_of_pos (m ^ (3 : Int).toNat + 29989 * m + 2011) (by decide : (0 : Int) < 2147483647)
  generalize (m ^ (3 : Int).toNat + 29989 * m + 2011) % 2147483647 = t at hs0 hs1 ⊢
  obtain ⟨M2, e2, f2, b2⟩ := b1.st3 (x := t) hs0 hs1
  simp only [e2, Option.some.injEq, exists_eq_left', b2.ix3, ok_lift, fDiv_int (by decide : (0 : Int) < 71 ∧ (71 : Int) < 1073741824), fMod_int (by decide : (0 : Int) < 7907), fMul_int (.inr (by decide : -P64 < (47 : Int) ∧ (47 : Int) < P64)), fAdd_int, fMod_int h0]
  exact hQ _ _ (Int.emod_nonneg _ (by omega)) (Int.emod_lt_of_pos _ h0) ⟨_, _, _, _, _, b2⟩ (f1.trans f2)
theorem pullB_ok {x y z : Option D} (hB : BagF M b c p q salt n ns) (h0 : 0 < s) (h1 : s < 1073741824) (hQ : ∀ (r : Int) (M' : Mem), 0 ≤ r → r < s → Bag M' b c → Fr b M M' → Q (.int r) M') : OkS (h_pullB [some (.ref b), some (.int s), x, y, z] M) (fun ρ M => OkS (h_pullC ρ M) N Q B C) Q B C := by
  unfold h_pullB
  have hd0 : 0 ≤ q / s := Int.ediv_nonneg hB.q0 (by omega)
  obtain ⟨M1, e1, f1, b1⟩ := hB.st2 (x := q / s) hd0
  simp only [okS_seq, okS_if, okS_skip, ok_B, ok_bin, ok_var, ok_C, okS_asg, bName_at, okS_setIx, okS_ret, ok_lift, List.getElem?_cons_zero, List.getElem?_cons_succ, Option.some.injEq, exists_eq_left', List.set_cons_succ, List.set_cons_zero, hB.ix2, fGt_int, fMod_int h0, fDiv_int ⟨h0, h1⟩, e1, D.bl.injEq, decide_eq_true_eq]
  split
  · exact hQ _ _ (Int.emod_nonneg _ (by omega)) (Int.emod_lt_of_pos _ h0) ⟨_, _, _, _, _, b1⟩ f1
  · exact pullC_ok hB h0 hQ
theorem pull_spec {T : Tbl} : PullS (fnOfDen 5 (h_pull T)) := by
  intro M b c s Q hB h0 h1 hQ
  obtain ⟨p, q, salt, n, ns, hB⟩ := hB
  rw [ok_den]
  have e : startE 5 [.ref b, .int s] = [some (.ref b), some (.int s), none, none, none] := rfl
  rw [e]
  show OkS (dSeq h_pullA (dSeq h_pullB h_pullC) _ M) _ _ _ _
  unfold h_pullA
  have hp := hB.p0
  obtain ⟨M1, e1, f1, b1⟩ := hB.st1 (x := p + 1) (by omega)
  simp only [okS_seq, okS_if, okS_skip, ok_andT, ok_B, ok_bin, ok_var, ok_C, ok_bf, ok_cons, ok_nil, okS_asg, bName_at, okS_setIx, ok_lift, List.getElem?_cons_zero, List.getElem?_cons_succ, Option.some.injEq, exists_eq_left', List.set_cons_succ, List.set_cons_zero, hB.ix2, fEq_int, hB.ix1, hB.ix0, fLen_ref hB.at_c, fLt_int, D.bl.injEq, decide_eq_true_eq, fIx_ref hB.at_c, fAdd_int]
  split
  · split
    · rename_i h2 h3
      have hp2 : p.toNat < (ns.map D.int).length := by omega
      have ea : atI (ns.map D.int) p = some (.int (ns[p.toNat]'(by simpa using hp2))) := by
        have := atI_lt hp2
        rw [Int.toNat_of_nonneg hp] at this
        rw [this, List.getElem_map]
      generalize (ns[p.toNat]'(by simpa using hp2)) = cell at ea
      simp only [ea, Option.map_some, ok_lift, hB.ix1, e1, Option.some.injEq, exists_eq_left', fGe_int, fPow_int (i := 10) (j := 18) ⟨by decide, by decide, by decide⟩, D.bl.injEq, decide_eq_true_eq, b1.ix3, fMul_int (.inr (by decide : -P64 < (37987 : Int) ∧ (37987 : Int) < P64)), fMod_int (by decide : (0 : Int) < 2147483579), fMod_int (by decide : (0 : Int) < 2147483647), fAdd_int]
      split
      · rename_i h4
        have h5 : (0 : Int) ≤ cell := Int.le_trans (by decide) h4
        obtain ⟨M2, e2, f2, b2⟩ := b1.st2 (x := cell) h5
        simp only [e2, Option.some.injEq, exists_eq_left']
        exact pullB_ok b2 h0 h1 fun r M' r0 r1 g f => hQ r M' r0 r1 g ((f1.trans f2).trans f)
      · obtain ⟨M2, e2, f2, b2⟩ := b1.st3 (x := (salt * 37987 + cell % 2147483579 + 17) % 2147483647) (Int.emod_nonneg _ (by decide)) (Int.emod_lt_of_pos _ (by decide))
        simp only [e2, Option.some.injEq, exists_eq_left']
        exact pullB_ok b2 h0 h1 fun r M' r0 r1 g f => hQ r M' r0 r1 g ((f1.trans f2).trans f)
    · exact pullB_ok hB h0 h1 hQ
  · simp only [Bool.false_eq_true, if_false]
    exact pullB_ok hB h0 h1 hQ
end
/-! ### the helpers' own texts -/
def h_bag (T : Tbl) : DenS :=
  (dSeq (dAsg (dC (.int 9498)) (bName 1))
  (dSeq (dFor (dSeqI (dSl (dVar 0) dNoPart (dPart (dC (.int 63))))) (bName 2) (dAsg (dBin fMod (dBin fAdd (dBin fAdd (dBin fMulA (dVar 1) (dC (.int 45989))) (dBin fMod (dVar 2) (dC (.int 2147483587)))) (dC (.int 29))) (dC (.int 2147483647))) (bName 1)))
  (dRet (dLst (dCons (dBf fList (dCons (dSl (dVar 0) dNoPart (dPart (dC (.int 63)))) dNil)) (dCons (dC (.int 0)) (dCons (dC (.int 0)) (dCons (dVar 1) (dCons (dC (.int 0)) dNil)))))))))
def h_of (T : Tbl) : DenS :=
  (dRet (dBin fIx (dVar 1) (dCall 2 (T "_law_pull") (dCons (dVar 0) (dCons (dBf fLen (dCons (dVar 1) dNil)) dNil)))))
def h_act (T : Tbl) : DenS :=
  (dSeq (dAsg (dCall 2 (T "_law_pull") (dCons (dVar 0) (dCons (dVar 2) dNil))) (bName 3))
  (dRet (dTup (dCons (dCall 2 (T "_law_of") (dCons (dVar 0) (dCons (dVar 1) dNil))) (dCons (dVar 3) (dCons (dBin fAdd (dBin fAdd (dVar 3) (dC (.int 1))) (dCall 2 (T "_law_pull") (dCons (dVar 0) (dCons (dVar 2) dNil)))) dNil))))))
def h_sameA (T : Tbl) : DenS :=
  (dRet (dAnd (dBin fEq (dBf fLen (dCons (dVar 0) dNil)) (dBf fLen (dCons (dVar 1) dNil))) (dBf fAll (dCons (dLc (dRange1 (dCons (dBf fLen (dCons (dVar 1) dNil)) dNil)) (bName 2) dYes (dCall 2 (T "_law_same") (dCons (dBin fIx (dVar 0) (dVar 2)) (dCons (dBin fIx (dVar 1) (dVar 2)) dNil))) [2]) dNil))))
def h_same (T : Tbl) : DenS :=
  (dSeq (dIf (dTru (dBf fIsi (dCons (dVar 1) (dCons (dTup (dCons (dC (.ty "list")) (dCons (dC (.ty "tuple")) dNil))) dNil)))) (dSeq (dIf (dOrT (dB (dBin fNe (dBf fIsi (dCons (dVar 0) (dCons (dC (.ty "list")) dNil))) (dBf fIsi (dCons (dVar 1) (dCons (dC (.ty "list")) dNil))))) (dB (dBin fNe (dBf fIsi (dCons (dVar 0) (dCons (dC (.ty "tuple")) dNil))) (dBf fIsi (dCons (dVar 1) (dCons (dC (.ty "tuple")) dNil)))))) (dRet (dC (.bl false))) dSkip)
  (h_sameA T)) dSkip)
  (dSeq (dIf (dOrT (dB (dBin fIs (dVar 1) (dC .non))) (dB (dBin fIs (dVar 0) (dC .non)))) (dRet (dAnd (dBin fIs (dVar 0) (dC .non)) (dBin fIs (dVar 1) (dC .non)))) dSkip)
  (dSeq (dIf (dOrT (dB (dBin fNe (dBf fIsi (dCons (dVar 1) (dCons (dC (.ty "bool")) dNil))) (dBf fIsi (dCons (dVar 0) (dCons (dC (.ty "bool")) dNil))))) (dB (dBin fNe (dBf fIsi (dCons (dVar 1) (dCons (dC (.ty "int")) dNil))) (dBf fIsi (dCons (dVar 0) (dCons (dC (.ty "int")) dNil)))))) (dRet (dC (.bl false))) dSkip)
  (dRet (dAnd (dBin fEq (dBf fIsi (dCons (dVar 1) (dCons (dC (.ty "str")) dNil))) (dBf fIsi (dCons (dVar 0) (dCons (dC (.ty "str")) dNil)))) (dBin fEq (dVar 0) (dVar 1)))))))
/-! ### the bag made -/
def BagS (F : Fn) : Prop := ∀ (M : Mem) (ns : List Int) (Q : D → Mem → Prop), ns.length ≤ 63 → (∀ (b c : Nat) (M' : Mem), Bag M' b c → M.length ≤ b → Fr b M M' → Q (.ref b) M') → Ok (F [script ns] M) Q
theorem allO_len {α β : Type} {f : α → Option β} : ∀ {xs : List α} {ys : List β}, allO f xs = some ys → ys.length = xs.length := by
  intro xs
  induction xs with
  | nil => intro ys h; cases h; rfl
  | cons x r ih =>
    intro ys h
    unfold allO at h
    split at h
    · cases h
      rename_i e
      simp [ih e]
    · cases h
theorem fSl_ro {xs : List D} {lo hi : Option Int} {M : Mem} : fSl (.ro xs) lo hi M = some (.ref M.length, M ++ [.lst (cutD xs lo hi)]) := rfl
theorem cut_all {xs : List D} {h : Int} (e : (xs.length : Int) ≤ h) : cutD xs none (some h) = xs := by
  refine cut_whole ⟨rfl, ?_⟩
  show (if h < 0 then (h + ↑xs.length).toNat else min h.toNat xs.length) = xs.length
  rw [if_neg (by omega)]
  omega
theorem seqStep_ref {M : Mem} {l : Nat} {xs : List D} (h : M[l]? = some (.lst xs)) : seqStep (.ref l) M = some (xs.length + 1, fun i M2 => match M2[l]? with
      | some (.lst ys) => some ys[i]?
      | _ => none) := by unfold seqStep; (simp only [h]) <;> rfl
theorem fList_ref {M : Mem} {l : Nat} {xs : List D} (h : M[l]? = some (.lst xs)) : fList [.ref l] M = some (.ref M.length, M ++ [.lst xs]) := by simp only [fList, seqO, h]; rfl
theorem fList_ro {M : Mem} {xs : List D} : fList [.ro xs] M = some (.ref M.length, M ++ [.lst xs]) := rfl
/-- the rule of a for over a list that stays -/
theorem for_list_ok {ρ : Env} {M : Mem} {N : Env → Mem → Prop} {Rt : D → Mem → Prop} {B C : Env → Mem → Prop} {b : Bd} {body : DenS} {xs : List D} (st : Step) (J : Nat → Env → Mem → Prop) (hst : ∀ i ρ M, J i ρ M → st i M = some xs[i]?) (h0 : J 0 ρ M)
    (turn : ∀ i (hi : i < xs.length) ρ M, J i ρ M → ∃ ρ1, b xs[i] ρ M = some ρ1 ∧ OkS (body ρ1 M) (J (i + 1)) Rt N (J (i + 1))) (done : ∀ ρ M, J xs.length ρ M → N ρ M) : OkS (forIt st b body (xs.length + 1) 0 ρ M) N Rt B C := by
  refine forIt_ok J xs.length (fun i ρ M hi hJ => ?_) (fun ρ M hJ => ⟨?_, done ρ M hJ⟩) _ 0 ρ M (by omega) (Nat.zero_le _) h0
  · obtain ⟨ρ1, h1, h2⟩ := turn i hi ρ M hJ
    exact ⟨xs[i], ρ1, by rw [hst i ρ M hJ, List.getElem?_eq_getElem hi], h1, h2⟩
  · rw [hst _ ρ M hJ, List.getElem?_eq_none (Nat.le_refl _)]
theorem bag_spec {T : Tbl} : BagS (fnOfDen 3 (h_bag T)) := by
  intro M ns Q hl hQ
  rw [ok_den]
  have e : startE 3 [script ns] = [some (.ro (ns.map .int)), none, none] := rfl
  rw [e]
  unfold h_bag
  have hc : cutD (ns.map D.int) none (some 63) = ns.map D.int := cut_all (by simp; omega)
  have hg : (M ++ [MO.lst (ns.map D.int)])[M.length]? = some (.lst (ns.map D.int)) := by simp
  simp only [okS_seq, okS_asg, ok_C, bName_at, Option.some.injEq, exists_eq_left', List.set_cons_succ, List.set_cons_zero, okS_toS]
  refine okS_for ?_
  simp only [ok_seqI, ok_sl, ok_var, ok_noPart, ok_part, ok_C, List.getElem?_cons_zero, List.getElem?_cons_succ, Option.some.injEq, exists_eq_left', D.int.injEq, fSl_ro, hc, ok_lift, seqStep_ref hg]
  refine for_list_ok _ (fun i ρ M' => (∃ salt x, ρ = [some (.ro (ns.map .int)), some (.int salt), x] ∧ 0 ≤ salt ∧ salt < 2147483647) ∧ M' = M ++ [.lst (ns.map .int)]) (fun i ρ M' hJ => by rw [hJ.2, hg]) ⟨⟨_, _, rfl, by decide, by decide⟩, rfl⟩ (fun i hi ρ M' hJ => ?_) (fun ρ M' hJ => ?_)
  · obtain ⟨⟨salt, x, rfl, h0, h1⟩, rfl⟩ := hJ
    rw [List.getElem_map]
    refine ⟨_, rfl, ?_⟩
    simp only [okS_asg, ok_bin, ok_var, ok_C, bName_at, List.set_cons_succ, List.set_cons_zero, List.getElem?_cons_zero, List.getElem?_cons_succ, Option.some.injEq, exists_eq_left', ok_lift, fMul_int (.inr (by decide : -P64 < (45989 : Int) ∧ (45989 : Int) < P64)), fMod_int (by decide : (0 : Int) < 2147483587), fMod_int (by decide : (0 : Int) < 2147483647), fAdd_int]
    exact ⟨⟨_, _, rfl, Int.emod_nonneg _ (by decide), Int.emod_lt_of_pos _ (by decide)⟩, trivial⟩
  · obtain ⟨⟨salt, x, rfl, h0, h1⟩, rfl⟩ := hJ
    have hg2 : (M ++ [MO.lst (ns.map D.int)] ++ [MO.lst (ns.map D.int)])[(M ++ [MO.lst (ns.map D.int)]).length]? = some (.lst (ns.map D.int)) := List.getElem?_concat_length
    simp only [okS_ret, ok_lst, ok_cons, ok_nil, ok_bf, ok_sl, ok_var, ok_noPart, ok_part, ok_C, List.getElem?_cons_zero, List.getElem?_cons_succ, Option.some.injEq, exists_eq_left', D.int.injEq, fSl_ro, hc, ok_lift, fList_ref hg2]
    refine ⟨(by decide : 5 ≤ SZ), hQ _ (M ++ [MO.lst (ns.map D.int)] ++ [MO.lst (ns.map D.int)]).length _ ⟨0, 0, salt, 0, ns, ⟨by simp, by simp, by simp, by decide, by decide, h0, h1⟩⟩ (by simp) ?_⟩
    exact ((Fr.app.trans Fr.app).trans Fr.app).trans Fr.app
/-! ### one of some -/
/-- d stands for the items xs, whatever happens to b -/
def Sq (b : Nat) (M : Mem) (d : D) (xs : List D) : Prop := d = .tup xs ∨ ∃ l, d = .ref l ∧ l ≠ b ∧ M[l]? = some (.lst xs)
theorem Sq.fr {b : Nat} {M M' : Mem} {d : D} {xs : List D} (h : Sq b M d xs) (f : Fr b M M') : Sq b M' d xs := by
  rcases h with h | ⟨l, h1, h2, h3⟩
  · exact .inl h
  · exact .inr ⟨l, h1, h2, f.at_ h3 h2⟩
theorem Sq.len {b : Nat} {M : Mem} {d : D} {xs : List D} (h : Sq b M d xs) : fLen [d] M = some (.int xs.length, M) := by
  rcases h with rfl | ⟨l, rfl, h2, h3⟩
  · rfl
  · exact fLen_ref h3
theorem Sq.ix {b : Nat} {M : Mem} {d : D} {xs : List D} (h : Sq b M d xs) {i : Int} : fIx d (.int i) M = (atI xs i).map fun x => (x, M) := by
  rcases h with rfl | ⟨l, rfl, h2, h3⟩
  · rfl
  · exact fIx_ref h3
def OfS (F : Fn) : Prop := ∀ (M : Mem) (b c : Nat) (d : D) (xs : List D) (Q : D → Mem → Prop), Bag M b c → Sq b M d xs → 0 < xs.length → xs.length < 1073741824 → (∀ (x : D) (M' : Mem), x ∈ xs → Bag M' b c → Fr b M M' → Q x M') → Ok (F [.ref b, d] M) Q
theorem of_spec {T : Tbl} (hp : PullS (T "_law_pull")) : OfS (fnOfDen 2 (h_of T)) := by
  intro M b c d xs Q hB hs h0 h1 hQ
  rw [ok_den]
  have e : startE 2 [.ref b, d] = [some (.ref b), some d] := rfl
  rw [e]
  unfold h_of
  simp only [okS_ret, ok_bin, ok_var, ok_call, ok_cons, ok_nil, ok_bf, List.getElem?_cons_zero, List.getElem?_cons_succ, Option.some.injEq, exists_eq_left', hs.len, ok_lift]
  refine ⟨rfl, hp _ _ _ _ _ hB (by omega) (by omega) fun r M' r0 r1 hB' hf => ?_⟩
  have hr : r.toNat < xs.length := by omega
  have ea := atI_lt hr
  rw [Int.toNat_of_nonneg r0] at ea
  rw [(hs.fr hf).ix, ea]
  exact hQ _ _ (List.getElem_mem hr) hB' hf
/-! ### an act -/
def ActS (F : Fn) : Prop := ∀ (M : Mem) (b c : Nat) (d : D) (xs : List D) (wide : Int) (Q : D → Mem → Prop), Bag M b c → Sq b M d xs → 0 < xs.length → xs.length < 1073741824 → 0 < wide → wide < 1073741824 → (∀ (x : D) (i j : Int) (M' : Mem), x ∈ xs → 0 ≤ i → i < wide → i < j → j ≤ i + wide → Bag M' b c → Fr b M M' → Q (.tup [x, .int i, .int j]) M') → Ok (F [.ref b, d, .int wide] M) Q
theorem act_spec {T : Tbl} (hp : PullS (T "_law_pull")) (ho : OfS (T "_law_of")) : ActS (fnOfDen 4 (h_act T)) := by
  intro M b c d xs wide Q hB hs h0 h1 w0 w1 hQ
  rw [ok_den]
  have e : startE 4 [.ref b, d, .int wide] = [some (.ref b), some d, some (.int wide), none] := rfl
  rw [e]
  unfold h_act
  simp only [okS_seq, okS_asg, okS_ret, ok_bin, ok_var, ok_call, ok_cons, ok_nil, ok_bf, ok_C, ok_tup, bName_at, List.getElem?_cons_zero, List.getElem?_cons_succ, Option.some.injEq, exists_eq_left', List.set_cons_succ, List.set_cons_zero, ok_lift]
  refine ⟨rfl, hp _ _ _ _ _ hB w0 w1 fun i M1 i0 i1 b1 f1 => ?_⟩
  refine ⟨rfl, ho _ _ _ _ _ _ b1 (hs.fr f1) h0 h1 fun x M2 hx b2 f2 => ?_⟩
  simp only [fAdd_int, ok_lift]
  refine ⟨rfl, hp _ _ _ _ _ b2 w0 w1 fun j M3 j0 j1 b3 f3 => ?_⟩
  simp only [fAdd_int, ok_lift]
  exact ⟨(by decide : 3 ≤ SZ), hQ x i _ M3 hx i0 i1 (by omega) (by omega) b3 ((f1.trans f2).trans f3)⟩
theorem kb_NoneType_list : kitB "NoneType" "list" = some false := by decide +kernel
theorem kb_NoneType_tuple : kitB "NoneType" "tuple" = some false := by decide +kernel
theorem kb_NoneType_bool : kitB "NoneType" "bool" = some false := by decide +kernel
theorem kb_NoneType_int : kitB "NoneType" "int" = some false := by decide +kernel
theorem kb_NoneType_str : kitB "NoneType" "str" = some false := by decide +kernel
theorem ka_NoneType : isAny "NoneType" ["list", "tuple"] = some false := by decide +kernel
theorem kb_bool_list : kitB "bool" "list" = some false := by decide +kernel
theorem kb_bool_tuple : kitB "bool" "tuple" = some false := by decide +kernel
theorem kb_bool_bool : kitB "bool" "bool" = some true := by decide +kernel
theorem kb_bool_int : kitB "bool" "int" = some true := by decide +kernel
theorem kb_bool_str : kitB "bool" "str" = some false := by decide +kernel
theorem ka_bool : isAny "bool" ["list", "tuple"] = some false := by decide +kernel
theorem kb_int_list : kitB "int" "list" = some false := by decide +kernel
theorem kb_int_tuple : kitB "int" "tuple" = some false := by decide +kernel
theorem kb_int_bool : kitB "int" "bool" = some false := by decide +kernel
theorem kb_int_int : kitB "int" "int" = some true := by decide +kernel
theorem kb_int_str : kitB "int" "str" = some false := by decide +kernel
theorem ka_int : isAny "int" ["list", "tuple"] = some false := by decide +kernel
theorem kb_str_list : kitB "str" "list" = some false := by decide +kernel
theorem kb_str_tuple : kitB "str" "tuple" = some false := by decide +kernel
theorem kb_str_bool : kitB "str" "bool" = some false := by decide +kernel
theorem kb_str_int : kitB "str" "int" = some false := by decide +kernel
theorem kb_str_str : kitB "str" "str" = some true := by decide +kernel
theorem ka_str : isAny "str" ["list", "tuple"] = some false := by decide +kernel
theorem kb_list_list : kitB "list" "list" = some true := by decide +kernel
theorem kb_list_tuple : kitB "list" "tuple" = some false := by decide +kernel
theorem kb_list_bool : kitB "list" "bool" = some false := by decide +kernel
theorem kb_list_int : kitB "list" "int" = some false := by decide +kernel
theorem kb_list_str : kitB "list" "str" = some false := by decide +kernel
theorem ka_list : isAny "list" ["list", "tuple"] = some true := by decide +kernel
theorem kb_tuple_list : kitB "tuple" "list" = some false := by decide +kernel
theorem kb_tuple_tuple : kitB "tuple" "tuple" = some true := by decide +kernel
theorem kb_tuple_bool : kitB "tuple" "bool" = some false := by decide +kernel
theorem kb_tuple_int : kitB "tuple" "int" = some false := by decide +kernel
theorem kb_tuple_str : kitB "tuple" "str" = some false := by decide +kernel
theorem ka_tuple : isAny "tuple" ["list", "tuple"] = some true := by decide +kernel
/-! ### data -/
/-- all that stood still stands -/
def Al (M M' : Mem) : Prop := ∃ t, M' = M ++ t
theorem Al.refl {M : Mem} : Al M M := ⟨[], by simp⟩
theorem Al.trans {M M1 M2 : Mem} (h : Al M M1) (k : Al M1 M2) : Al M M2 := by
  obtain ⟨t, rfl⟩ := h
  obtain ⟨u, rfl⟩ := k
  exact ⟨t ++ u, by simp⟩
theorem Al.app {M t : Mem} : Al M (M ++ t) := ⟨t, rfl⟩
theorem Al.fr {M M' : Mem} (h : Al M M') (b : Nat) : Fr b M M' := by
  obtain ⟨t, rfl⟩ := h
  exact Fr.app
theorem Al.at_ {M M' : Mem} (h : Al M M') {i : Nat} {o : MO} (e : M[i]? = some o) : M'[i]? = some o := by
  obtain ⟨t, rfl⟩ := h
  rw [List.getElem?_append_left (List.getElem?_eq_some_iff.mp e).1]
  exact e
theorem Al.set {M M' : Mem} (h : Al M M') {l : Nat} {o : MO} (hl : M.length ≤ l) : Al M (M'.set l o) := by
  obtain ⟨t, rfl⟩ := h
  exact ⟨t.set (l - M.length) o, by rw [List.set_append_right _ _ hl]⟩
theorem Al.bag {M M' : Mem} (h : Al M M') {b c : Nat} (hB : Bag M b c) : Bag M' b c := by
  obtain ⟨t, rfl⟩ := h
  exact hB.app
/-- what stands for the list xs, whatever happens to b -/
def Ls (b : Nat) (M : Mem) (d : D) (xs : List D) : Prop := d = .ro xs ∨ ∃ l, d = .ref l ∧ l ≠ b ∧ M[l]? = some (.lst xs)
mutual
/-- d reads as p, whatever happens to b -/
def Rep (b : Nat) (M : Mem) : PyData → D → Prop
  | .none, d => d = .non
  | .bool x, d => d = .bl x
  | .int i, d => d = .int i
  | .str s, d => d = .str s ∧ PyData.strOk s = true
  | .list ps, d => ∃ xs, Ls b M d xs ∧ xs.length ≤ SZ ∧ Reps b M ps xs
  | .tuple ps, d => ∃ xs, d = .tup xs ∧ xs.length ≤ SZ ∧ Reps b M ps xs
  | .dict _, _ => False
def Reps (b : Nat) (M : Mem) : List PyData → List D → Prop
  | [], [] => True
  | p :: ps, d :: ds => Rep b M p d ∧ Reps b M ps ds
  | _, _ => False
end
theorem Ls.fr {b : Nat} {M M' : Mem} {d : D} {xs : List D} (h : Ls b M d xs) (f : Fr b M M') : Ls b M' d xs := by
  rcases h with h | ⟨l, h1, h2, h3⟩
  · exact .inl h
  · exact .inr ⟨l, h1, h2, f.at_ h3 h2⟩
mutual
theorem Rep.fr {b : Nat} {M M' : Mem} (f : Fr b M M') : ∀ {p : PyData} {d : D}, Rep b M p d → Rep b M' p d
  | .none, _, h => h
  | .bool _, _, h => h
  | .int _, _, h => h
  | .str _, _, h => h
  | .list _, _, ⟨xs, h1, h2, h3⟩ => ⟨xs, h1.fr f, h2, Reps.fr f h3⟩
  | .tuple _, _, ⟨xs, h1, h2, h3⟩ => ⟨xs, h1, h2, Reps.fr f h3⟩
  | .dict _, _, h => h
theorem Reps.fr {b : Nat} {M M' : Mem} (f : Fr b M M') : ∀ {ps : List PyData} {ds : List D}, Reps b M ps ds → Reps b M' ps ds
  | [], [], _ => trivial
  | _ :: _, _ :: _, ⟨h1, h2⟩ => ⟨Rep.fr f h1, Reps.fr f h2⟩
  | [], _ :: _, h => h
  | _ :: _, [], h => h
end
theorem Reps.len {b : Nat} {M : Mem} : ∀ {ps : List PyData} {ds : List D}, Reps b M ps ds → ds.length = ps.length
  | [], [], _ => rfl
  | _ :: _, _ :: _, ⟨_, h⟩ => by simp [Reps.len h]
  | [], _ :: _, h => h.elim
  | _ :: _, [], h => h.elim
theorem Reps.at_ {b : Nat} {M : Mem} : ∀ {ps : List PyData} {ds : List D}, Reps b M ps ds → ∀ i (h1 : i < ps.length) (h2 : i < ds.length), Rep b M ps[i] ds[i]
  | p :: ps, d :: ds, ⟨h, k⟩, 0, _, _ => h
  | p :: ps, d :: ds, ⟨h, k⟩, i + 1, h1, h2 => Reps.at_ k i (by simpa using h1) (by simpa using h2)
  | [], [], _, _, h1, _ => absurd h1 (Nat.not_lt_zero _)
  | [], _ :: _, h, _, _, _ => h.elim
  | _ :: _, [], h, _, _, _ => h.elim
theorem depth_at : ∀ {ps : List PyData} (i : Nat) (h : i < ps.length), ps[i].depth ≤ PyData.depthAll ps
  | p :: ps, 0, _ => Nat.le_max_left _ _
  | p :: ps, i + 1, h => Nat.le_trans (depth_at i (by simpa using h)) (Nat.le_max_right _ _)
def tyR : PyData → String
  | .none => "NoneType"
  | .bool _ => "bool"
  | .int _ => "int"
  | .str _ => "str"
  | .list _ => "list"
  | .tuple _ => "tuple"
  | .dict _ => "dict"
theorem Ls.ty {b : Nat} {M : Mem} {d : D} {xs : List D} (h : Ls b M d xs) : tyO M d = some "list" := by
  rcases h with rfl | ⟨l, rfl, _, h⟩
  · rfl
  · simp only [tyO, h]
theorem Rep.ty {b : Nat} {M : Mem} {p : PyData} {d : D} (h : Rep b M p d) : tyO M d = some (tyR p) := by
  cases p with
  | none => cases h; rfl
  | bool x => cases h; rfl
  | int i => cases h; rfl
  | str s => cases h.1; rfl
  | list ps => obtain ⟨xs, h1, _, _⟩ := h; exact h1.ty
  | tuple ps => obtain ⟨xs, rfl, _, _⟩ := h; rfl
  | dict kvs => exact h.elim
theorem fIsi_ty {M : Mem} {x : D} {t c : String} {r : Bool} (h : tyO M x = some t) (k : kitB t c = some r) : fIsi [x, .ty c] M = some (.bl r, M) := by
  simp only [fIsi, h, k, Option.map_some]
theorem fIsi_lt {M : Mem} {x : D} {t : String} {r : Bool} (h : tyO M x = some t) (k : isAny t ["list", "tuple"] = some r) : fIsi [x, .tup [.ty "list", .ty "tuple"]] M = some (.bl r, M) := by
  have e : allO tyNm [D.ty "list", .ty "tuple"] = some ["list", "tuple"] := rfl
  simp only [fIsi, h, e, k, Option.map_some]
theorem fEq_bl {M : Mem} {x y : Bool} : fEq (.bl x) (.bl y) M = some (.bl (x == y), M) := rfl
theorem fNe_bl {M : Mem} {x y : Bool} : fNe (.bl x) (.bl y) M = some (.bl (!(x == y)), M) := rfl
theorem truO_bl {M : Mem} {b : Bool} : truO M (.bl b) = some b := rfl
theorem fIs_bl {M : Mem} {b : Bool} : fIs (.bl b) .non M = some (.bl false, M) := rfl
theorem fIs_int {M : Mem} {b : Int} : fIs (.int b) .non M = some (.bl false, M) := rfl
theorem fIs_str {M : Mem} {b : Str} : fIs (.str b) .non M = some (.bl false, M) := rfl
theorem fIs_non {M : Mem} : fIs .non .non M = some (.bl true, M) := rfl
def SameS (n : Nat) (F : Fn) : Prop := ∀ (M : Mem) (b : Nat) (x y : D) (p : PyData) (Q : D → Mem → Prop), p.depth < n → Rep b M p x → Rep b M p y → (∀ M', Al M M' → Q (.bl true) M') → Ok (F [x, y] M) Q
theorem eqv_refl_str {s : Str} : PyData.eqv (.str s) (.str s) = true := by
  show (s == s) = true
  exact beq_self_eq_true s
theorem fEq_str {M : Mem} {s : Str} (h : PyData.strOk s = true) : fEq (.str s) (.str s) M = some (.bl true, M) := by
  have h1 : SeqAt.shaped (.str s) = true := by
    unfold SeqAt.shaped
    show (PyData.strOk s && _) = true
    rw [h]
    rfl
  have e : deqO M (.str s) (.str s) = some true := by
    have e1 : toPD M PDN (.str s) = some (.str s) := rfl
    unfold deqO
    simp only [e1]
    rw [if_pos ⟨h1, h1⟩, eqv_refl_str]
  simp only [fEq, e, Option.map_some]
theorem Ls.ix {b : Nat} {M : Mem} {d : D} {xs : List D} (h : Ls b M d xs) {i : Int} : fIx d (.int i) M = (atI xs i).map fun x => (x, M) := by
  rcases h with rfl | ⟨l, rfl, h2, h3⟩
  · rfl
  · exact fIx_ref h3
theorem Ls.len {b : Nat} {M : Mem} {d : D} {xs : List D} (h : Ls b M d xs) : fLen [d] M = some (.int xs.length, M) := by
  rcases h with rfl | ⟨l, rfl, h2, h3⟩
  · rfl
  · exact fLen_ref h3
theorem allO_bls : ∀ n : Nat, allO asBool (List.replicate n (D.bl true)) = some (List.replicate n true)
  | 0 => rfl
  | n + 1 => by
    rw [List.replicate_succ, List.replicate_succ]
    unfold allO
    rw [allO_bls n]
    rfl
theorem fAll_true {M : Mem} {l n : Nat} (h : M[l]? = some (.lst (List.replicate n (.bl true)))) : fAll [.ref l] M = some (.bl true, M) := by
  simp only [fAll, lstO, h, Option.bind_some, allO_bls, Option.map_some]
  simp
/-- two sequences of the same -/
theorem sameA_ok {T : Tbl} {n b : Nat} {M : Mem} {x y : D} {ps : List PyData} {xs ys : List D} {Q : D → Mem → Prop} {N : Env → Mem → Prop} {B C : Env → Mem → Prop} (hT : SameS n (T "_law_same")) (hx : Sq b M x xs ∨ Ls b M x xs) (hy : Sq b M y ys ∨ Ls b M y ys) (rx : Reps b M ps xs) (ry : Reps b M ps ys) (hn : PyData.depthAll ps < n) (hz : xs.length ≤ SZ) (hQ : ∀ M', Al M M' → Q (.bl true) M') :
    OkS (h_sameA T [some x, some y, none] M) N Q B C := by
  have lx : fLen [x] M = some (.int xs.length, M) := by
    rcases hx with h | h
    · exact h.len
    · exact h.len
  have ly : fLen [y] M = some (.int ys.length, M) := by
    rcases hy with h | h
    · exact h.len
    · exact h.len
  have ixx : ∀ {M' : Mem} {i : Int}, Al M M' → fIx x (.int i) M' = (atI xs i).map fun x => (x, M') := fun {M' i} f => by
    rcases hx with h | h
    · exact (h.fr (f.fr b)).ix
    · exact (h.fr (f.fr b)).ix
  have ixy : ∀ {M' : Mem} {i : Int}, Al M M' → fIx y (.int i) M' = (atI ys i).map fun x => (x, M') := fun {M' i} f => by
    rcases hy with h | h
    · exact (h.fr (f.fr b)).ix
    · exact (h.fr (f.fr b)).ix
  have el : ys.length = xs.length := ry.len.trans rx.len.symm
  have ep : ps.length = xs.length := rx.len.symm
  unfold h_sameA
  simp only [okS_ret, ok_and, ok_bin, ok_bf, ok_cons, ok_nil, ok_var, List.getElem?_cons_zero, List.getElem?_cons_succ, Option.some.injEq, exists_eq_left', lx, ly, ok_lift, fEq_int, el, beq_self_eq_true, truO_bl, if_true]
  refine ok_lc ?_
  simp only [ok_range1, ok_cons, ok_nil, ok_bf, ok_var, List.getElem?_cons_zero, List.getElem?_cons_succ, Option.some.injEq, exists_eq_left', ly, el, ok_lift, List.cons.injEq, D.int.injEq, and_true]
  have hP : P62 = 4611686018427387904 := rfl
  have hS : SZ = 16777216 := rfl
  refine ⟨⟨by omega, by omega⟩, ?_⟩
  have e : ((xs.length : Nat) : Int).toNat = xs.length := by omega
  rw [e]
  refine lcIt_ok (fun i acc M' => acc = List.replicate i (.bl true) ∧ Al M M') xs.length (fun i acc M' hi hl hJ => ?_) (fun acc M' hl hJ => ?_) (xs.length + 1) 0 [] _ (by omega) (Nat.zero_le _) (by simp) ⟨rfl, Al.app⟩
  · obtain ⟨rfl, ha⟩ := hJ
    refine ⟨by simp; have : SZ = 16777216 := rfl; omega, .int (0 + (i : Int)), _, ?_, rfl, ?_⟩
    · show some (if i < xs.length then some (D.int (0 + i)) else none) = _
      rw [if_pos hi]
    have ex : atI xs ((0 : Int) + i) = some xs[i] := by rw [Int.zero_add]; exact atI_lt hi
    have ey : atI ys ((0 : Int) + i) = some ys[i] := by rw [Int.zero_add]; exact atI_lt (by omega)
    have ew : wipeE [some x, some y, none] [2] = [some x, some y, none] := rfl
    rw [ew]
    simp only [ok_yes, if_true, ok_call, ok_cons, ok_nil, ok_bin, ok_var, List.set_cons_succ, List.set_cons_zero, List.getElem?_cons_zero, List.getElem?_cons_succ, Option.some.injEq, exists_eq_left', ixx ha, ixy ha, ex, ey, Option.map_some, ok_lift]
    refine ⟨rfl, hT _ b _ _ ps[i] _ (Nat.lt_of_le_of_lt (depth_at i (by omega)) hn) (Rep.fr (ha.fr b) (rx.at_ i (by omega) hi)) (Rep.fr (ha.fr b) (ry.at_ i (by omega) (by omega))) fun M2 h2 => ?_⟩
    exact ⟨h2.at_ hl, List.replicate_succ'.symm, (ha.trans h2).set (Nat.le_refl _)⟩
  · obtain ⟨rfl, ha⟩ := hJ
    refine ⟨?_, ?_⟩
    · show some (if xs.length < xs.length then some (D.int (0 + xs.length)) else none) = _
      rw [if_neg (Nat.lt_irrefl _)]
    · rw [fAll_true hl]
      exact hQ M' ha
theorem same_spec {T : Tbl} {n : Nat} (hT : SameS n (T "_law_same")) : SameS (n + 1) (fnOfDen 3 (h_same T)) := by
  intro M b x y p Q hp hx hy hQ
  rw [ok_den]
  have e : startE 3 [x, y] = [some x, some y, none] := rfl
  rw [e]
  have tx := hx.ty
  have ty := hy.ty
  have z2 : [D.ty "list", .ty "tuple"].length ≤ SZ := by decide
  cases p with
  | list ps =>
    have tx : tyO M x = some "list" := tx
    have ty : tyO M y = some "list" := ty
    unfold h_same
    simp only [okS_seq, okS_if, okS_skip, okS_ret, ok_C, ok_orT, ok_B, ok_tru, ok_and, ok_bin, ok_bf, ok_cons, ok_nil, ok_tup, ok_var, List.getElem?_cons_zero, List.getElem?_cons_succ, Option.some.injEq, exists_eq_left', z2, true_and, fIsi_lt ty ka_list, fIsi_ty tx kb_list_list, fIsi_ty ty kb_list_list, fIsi_ty tx kb_list_tuple, fIsi_ty ty kb_list_tuple, fIsi_ty tx kb_list_bool, fIsi_ty ty kb_list_bool, fIsi_ty tx kb_list_int, fIsi_ty ty kb_list_int, fIsi_ty tx kb_list_str, fIsi_ty ty kb_list_str, ok_lift, truO_bl, fIs_non, fIs_bl, fIs_int, fIs_str, fNe_bl, fEq_bl, D.bl.injEq, beq_self_eq_true, Bool.not_true, Bool.false_eq_true, if_false, if_true]
    obtain ⟨xs, x1, x2, x3⟩ := hx
    obtain ⟨ys, y1, y2, y3⟩ := hy
    exact sameA_ok hT (.inr x1) (.inr y1) x3 y3 (Nat.lt_of_succ_lt_succ hp) x2 hQ
  | tuple ps =>
    have tx : tyO M x = some "tuple" := tx
    have ty : tyO M y = some "tuple" := ty
    unfold h_same
    simp only [okS_seq, okS_if, okS_skip, okS_ret, ok_C, ok_orT, ok_B, ok_tru, ok_and, ok_bin, ok_bf, ok_cons, ok_nil, ok_tup, ok_var, List.getElem?_cons_zero, List.getElem?_cons_succ, Option.some.injEq, exists_eq_left', z2, true_and, fIsi_lt ty ka_tuple, fIsi_ty tx kb_tuple_list, fIsi_ty ty kb_tuple_list, fIsi_ty tx kb_tuple_tuple, fIsi_ty ty kb_tuple_tuple, fIsi_ty tx kb_tuple_bool, fIsi_ty ty kb_tuple_bool, fIsi_ty tx kb_tuple_int, fIsi_ty ty kb_tuple_int, fIsi_ty tx kb_tuple_str, fIsi_ty ty kb_tuple_str, ok_lift, truO_bl, fIs_non, fIs_bl, fIs_int, fIs_str, fNe_bl, fEq_bl, D.bl.injEq, beq_self_eq_true, Bool.not_true, Bool.false_eq_true, if_false, if_true]
    obtain ⟨xs, rfl, x2, x3⟩ := hx
    obtain ⟨ys, rfl, y2, y3⟩ := hy
    exact sameA_ok hT (.inl (.inl rfl)) (.inl (.inl rfl)) x3 y3 (Nat.lt_of_succ_lt_succ hp) x2 hQ
  | none =>
    have tx : tyO M x = some "NoneType" := tx
    have ty : tyO M y = some "NoneType" := ty
    unfold h_same
    simp only [okS_seq, okS_if, okS_skip, okS_ret, ok_C, ok_orT, ok_B, ok_tru, ok_and, ok_bin, ok_bf, ok_cons, ok_nil, ok_tup, ok_var, List.getElem?_cons_zero, List.getElem?_cons_succ, Option.some.injEq, exists_eq_left', z2, true_and, fIsi_lt ty ka_NoneType, fIsi_ty tx kb_NoneType_list, fIsi_ty ty kb_NoneType_list, fIsi_ty tx kb_NoneType_tuple, fIsi_ty ty kb_NoneType_tuple, fIsi_ty tx kb_NoneType_bool, fIsi_ty ty kb_NoneType_bool, fIsi_ty tx kb_NoneType_int, fIsi_ty ty kb_NoneType_int, fIsi_ty tx kb_NoneType_str, fIsi_ty ty kb_NoneType_str, ok_lift, truO_bl, fIs_non, fIs_bl, fIs_int, fIs_str, fNe_bl, fEq_bl, D.bl.injEq, beq_self_eq_true, Bool.not_true, Bool.false_eq_true, if_false, if_true]
    cases hx
    cases hy
    simp only [fIs_non, fIs_bl, fIs_int, fIs_str, fIsi_ty tx kb_NoneType_bool, fIsi_ty tx kb_NoneType_int, fIsi_ty tx kb_NoneType_str, ok_lift, truO_bl, D.bl.injEq, Option.some.injEq, exists_eq_left', if_true, Bool.false_eq_true, if_false, fNe_bl, fEq_bl, fEq_int, beq_self_eq_true, Bool.not_true]
    exact hQ M Al.refl
  | bool v =>
    have tx : tyO M x = some "bool" := tx
    have ty : tyO M y = some "bool" := ty
    unfold h_same
    simp only [okS_seq, okS_if, okS_skip, okS_ret, ok_C, ok_orT, ok_B, ok_tru, ok_and, ok_bin, ok_bf, ok_cons, ok_nil, ok_tup, ok_var, List.getElem?_cons_zero, List.getElem?_cons_succ, Option.some.injEq, exists_eq_left', z2, true_and, fIsi_lt ty ka_bool, fIsi_ty tx kb_bool_list, fIsi_ty ty kb_bool_list, fIsi_ty tx kb_bool_tuple, fIsi_ty ty kb_bool_tuple, fIsi_ty tx kb_bool_bool, fIsi_ty ty kb_bool_bool, fIsi_ty tx kb_bool_int, fIsi_ty ty kb_bool_int, fIsi_ty tx kb_bool_str, fIsi_ty ty kb_bool_str, ok_lift, truO_bl, fIs_non, fIs_bl, fIs_int, fIs_str, fNe_bl, fEq_bl, D.bl.injEq, beq_self_eq_true, Bool.not_true, Bool.false_eq_true, if_false, if_true]
    cases hx
    cases hy
    simp only [fIs_non, fIs_bl, fIs_int, fIs_str, fIsi_ty tx kb_bool_bool, fIsi_ty tx kb_bool_int, fIsi_ty tx kb_bool_str, ok_lift, truO_bl, D.bl.injEq, Option.some.injEq, exists_eq_left', if_true, Bool.false_eq_true, if_false, fNe_bl, fEq_bl, fEq_int, beq_self_eq_true, Bool.not_true]
    exact hQ M Al.refl
  | int v =>
    have tx : tyO M x = some "int" := tx
    have ty : tyO M y = some "int" := ty
    unfold h_same
    simp only [okS_seq, okS_if, okS_skip, okS_ret, ok_C, ok_orT, ok_B, ok_tru, ok_and, ok_bin, ok_bf, ok_cons, ok_nil, ok_tup, ok_var, List.getElem?_cons_zero, List.getElem?_cons_succ, Option.some.injEq, exists_eq_left', z2, true_and, fIsi_lt ty ka_int, fIsi_ty tx kb_int_list, fIsi_ty ty kb_int_list, fIsi_ty tx kb_int_tuple, fIsi_ty ty kb_int_tuple, fIsi_ty tx kb_int_bool, fIsi_ty ty kb_int_bool, fIsi_ty tx kb_int_int, fIsi_ty ty kb_int_int, fIsi_ty tx kb_int_str, fIsi_ty ty kb_int_str, ok_lift, truO_bl, fIs_non, fIs_bl, fIs_int, fIs_str, fNe_bl, fEq_bl, D.bl.injEq, beq_self_eq_true, Bool.not_true, Bool.false_eq_true, if_false, if_true]
    cases hx
    cases hy
    simp only [fIs_non, fIs_bl, fIs_int, fIs_str, fIsi_ty tx kb_int_bool, fIsi_ty tx kb_int_int, fIsi_ty tx kb_int_str, ok_lift, truO_bl, D.bl.injEq, Option.some.injEq, exists_eq_left', if_true, Bool.false_eq_true, if_false, fNe_bl, fEq_bl, fEq_int, beq_self_eq_true, Bool.not_true]
    exact hQ M Al.refl
  | str v =>
    have tx : tyO M x = some "str" := tx
    have ty : tyO M y = some "str" := ty
    unfold h_same
    simp only [okS_seq, okS_if, okS_skip, okS_ret, ok_C, ok_orT, ok_B, ok_tru, ok_and, ok_bin, ok_bf, ok_cons, ok_nil, ok_tup, ok_var, List.getElem?_cons_zero, List.getElem?_cons_succ, Option.some.injEq, exists_eq_left', z2, true_and, fIsi_lt ty ka_str, fIsi_ty tx kb_str_list, fIsi_ty ty kb_str_list, fIsi_ty tx kb_str_tuple, fIsi_ty ty kb_str_tuple, fIsi_ty tx kb_str_bool, fIsi_ty ty kb_str_bool, fIsi_ty tx kb_str_int, fIsi_ty ty kb_str_int, fIsi_ty tx kb_str_str, fIsi_ty ty kb_str_str, ok_lift, truO_bl, fIs_non, fIs_bl, fIs_int, fIs_str, fNe_bl, fEq_bl, D.bl.injEq, beq_self_eq_true, Bool.not_true, Bool.false_eq_true, if_false, if_true]
    obtain ⟨rfl, hs⟩ := hx
    obtain ⟨rfl, _⟩ := hy
    simp only [fIs_non, fIs_bl, fIs_int, fIs_str, fIsi_ty tx kb_str_bool, fIsi_ty tx kb_str_int, fIsi_ty tx kb_str_str, ok_lift, truO_bl, D.bl.injEq, Option.some.injEq, exists_eq_left', if_true, Bool.false_eq_true, if_false, fNe_bl, fEq_bl, fEq_str hs, beq_self_eq_true, Bool.not_true]
    exact hQ M Al.refl
  | dict v => exact hx.elim
/-! ### texts -/
/-- the text of these codes -/
abbrev Sx (l : List Nat) : Str := ⟨l.toArray⟩
theorem Str_eta (s : Str) : Sx s.cps.toList = s := rfl
theorem join_nil : ∀ ys : List Str, TL.joinL [] (ys.map TL.tl) = ys.flatMap fun y => y.cps.toList
  | [] => rfl
  | [y] => by simp [TL.joinL, TL.tl]
  | y :: z :: r => by
    have ih := join_nil (z :: r)
    simp only [List.map_cons, TL.joinL, List.nil_append, List.flatMap_cons] at ih ⊢
    rw [ih]
theorem join_empty {ys : List Str} : Txt.join "" ys = Sx (ys.flatMap fun y => y.cps.toList) := by
  have e : Txt.join "" ys = Str.join "" ys := TL.join_eq _ _
  rw [e]
  refine TL.ext_tl ((TL.tl_join _ _).trans ?_)
  exact join_nil ys
theorem len_sum {ys : List Str} : (ys.flatMap fun y => y.cps.toList).length = (ys.map (·.length)).sum := by
  induction ys with
  | nil => rfl
  | cons y r ih => simp only [List.flatMap_cons, List.length_append, ih, List.map_cons, List.sum_cons]; rfl
/-- join with nothing between -/
theorem fJoin0_ref {M : Mem} {l : Nat} {ys : List Str} (h : M[l]? = some (.lst (ys.map .str))) (hz : (ys.map (·.length)).sum ≤ SZ) : fJoin (.str "") [.ref l] M = some (.str (Sx (ys.flatMap fun y => y.cps.toList)), M) := by
  have e : ∀ ys : List Str, allO asStr (ys.map D.str) = some ys := by
    intro ys
    induction ys with
    | nil => rfl
    | cons y r ih => simp only [List.map_cons, allO, asStr, ih]
  simp only [fJoin, seqO, h, Option.bind_some, e]
  rw [if_pos (by show _ + ys.length * 0 ≤ SZ; omega), join_empty]
/-- a small letter of the alphabet -/
def lowB (c : Nat) : Bool := !decide ([c] < [97]) && !decide ([122] < [c])
def labB (s : Str) : Bool := decide (1 ≤ s.length ∧ s.length ≤ 6) && s.cps.toList.all lowB
theorem fLe_str {x y : Str} {M : Mem} : fLe (.str x) (.str y) M = some (.bl (!decide (y.cps.toList < x.cps.toList)), M) := rfl
theorem fAll_bls {M : Mem} {l : Nat} {bs : List Bool} (h : M[l]? = some (.lst (bs.map .bl))) : fAll [.ref l] M = some (.bl (bs.all id), M) := by
  have e : ∀ bs : List Bool, allO asBool (bs.map D.bl) = some bs := by
    intro ys
    induction ys with
    | nil => rfl
    | cons y r ih => simp only [List.map_cons, allO, asBool, ih]
  simp only [fAll, lstO, h, Option.bind_some, e, Option.map_some]
theorem fLen_str {M : Mem} {s : Str} (h : s.length ≤ SZ) : fLen [.str s] M = some (.int s.length, M) := by
  show (if s.length ≤ SZ then some (D.int s.length, M) else none) = _
  rw [if_pos h]
def h_label (T : Tbl) : DenS :=
  (dRet (dAnd (dChain fLe fLe (dC (.int 1)) (dBf fLen (dCons (dVar 0) dNil)) (dC (.int 6))) (dBf fAll (dCons (dLc (dSeqI (dVar 0)) (bName 1) dYes (dChain fLe fLe (dC (.str "a")) (dVar 1) (dC (.str "z"))) [1]) dNil))))
def LabS (F : Fn) : Prop := ∀ (M : Mem) (s : Str) (Q : D → Mem → Prop), s.length ≤ SZ → (∀ M', Al M M' → Q (.bl (labB s)) M') → Ok (F [.str s] M) Q
theorem label_spec {T : Tbl} : LabS (fnOfDen 2 (h_label T)) := by
  intro M s Q hs hQ
  rw [ok_den]
  have e : startE 2 [.str s] = [some (.str s), none] := rfl
  rw [e]
  unfold h_label
  simp only [okS_ret, ok_and, ok_chain, ok_C, ok_bf, ok_cons, ok_nil, ok_var, List.getElem?_cons_zero, List.getElem?_cons_succ, Option.some.injEq, exists_eq_left', fLen_str hs, ok_lift, fLe_int, D.bl.injEq, decide_eq_true_eq]
  split
  · rename_i h1
    simp only [truO_bl, Option.some.injEq, exists_eq_left']
    split
    · rename_i h2
      have hn : s.cps.size ≤ 6 := by
        have : (s.length : Int) ≤ 6 := of_decide_eq_true h2
        have : s.length = s.cps.size := rfl
        omega
      rw [lc_pure (n := s.cps.size) (st := fun i _ => some (s.cps[i]?.map fun c => .str ⟨#[c]⟩)) (f := s.cps.size + 1) (fun i => .bl (lowB (s.cps[i]?.getD 0))) (M := M) rfl (Nat.lt_succ_self _) (by have : SZ = 16777216 := rfl; omega) (fun i M' hi => ?_) (fun M' => ?_)]
      · have hg : (M ++ [MO.lst ((List.range s.cps.size).map fun i => .bl (lowB (s.cps[i]?.getD 0)))])[M.length]? = some (.lst (((List.range s.cps.size).map fun i => lowB (s.cps[i]?.getD 0)).map .bl)) := by
          rw [List.getElem?_concat_length, List.map_map]
          rfl
        rw [ok_ok, fAll_bls hg]
        have ee : (((List.range s.cps.size).map fun i => lowB (s.cps[i]?.getD 0)).all id) = labB s := by
          have e1 : ((List.range s.cps.size).map fun i => lowB (s.cps[i]?.getD 0)) = s.cps.toList.map lowB := by
            apply List.ext_getElem
            · simp
            · intro i h1 h2
              simp at h1 h2
              simp [h2]
          rw [e1]
          unfold labB
          have e2 : decide (1 ≤ s.length ∧ s.length ≤ 6) = true := by
            apply decide_eq_true
            have : (s.length : Int) ≤ 6 := of_decide_eq_true h2
            omega
          rw [e2, List.all_map]
          rfl
        rw [ee]
        exact hQ _ Al.app
      · refine ⟨.str ⟨#[s.cps[i]]⟩, [some (.str s), some (.str ⟨#[s.cps[i]]⟩)], ?_, rfl, ?_⟩
        · show some (s.cps[i]?.map _) = _
          rw [Array.getElem?_eq_getElem hi]
          rfl
        · rw [Array.getElem?_eq_getElem hi]
          generalize s.cps[i] = c
          have ea : (Str.ofString "a").cps.toList = [97] := by decide +kernel
          have ez : (Str.ofString "z").cps.toList = [122] := by decide +kernel
          simp only [dChain, dC, dVar, R.bind, fLe_str, lift, List.getElem?_cons_zero, List.getElem?_cons_succ, ea, ez, Option.getD_some, lowB]
          cases decide ([c] < [97]) <;> simp
      · show some (s.cps[s.cps.size]?.map _) = _
        rw [Array.getElem?_eq_none (Nat.le_refl _)]
        rfl
    · rename_i h2
      have e2 : labB s = false := by
        unfold labB
        have : ¬ (1 ≤ s.length ∧ s.length ≤ 6) := by
          have h2 : ¬ (s.length : Int) ≤ 6 := by simpa using h2
          omega
        rw [decide_eq_false this]
        rfl
      have := hQ M Al.refl
      rw [e2] at this
      simpa [h2] using this
  · rename_i h1
    have e2 : labB s = false := by
      unfold labB
      rw [decide_eq_false (by omega)]
      rfl
    have := hQ M Al.refl
    rw [e2] at this
    simpa [truO_bl] using this
theorem fMul_list {M : Mem} {l : Nat} {xs : List D} {k : Int} (h : M[l]? = some (.lst xs)) (h1 : -9223372036854775808 ≤ k) (h2 : k < 9223372036854775808) (h3 : xs.length * k.toNat ≤ SZ) : fMulA (.ref l) (.int k) M = some (.ref M.length, M ++ [.lst (List.replicate k.toNat xs).flatten]) := by
  show fRep (.ref l) (.int k) M = _
  simp only [fRep, h]
  rw [if_pos ⟨h1, h2, h3⟩]
end Lp
/-! LpEnd: the table of defs at every level; the law's end. -/
namespace Lp
open PySem PySem.Spec PyProof.Rows L2
section
variable {P : Program} {w : World} {K : PySem.W.Frag} {mg : Str → Option Value} {base : Heap} {k : Nat} {x qual : Str} {pa : Arguments} {body : List Stmt} {scope : Scope} {f : Addr} {fd : FuncData} {ps : List Str} {F : Fn}
theorem fnS_mk (D : FunD K x qual pa body scope [] [] f fd) (hm : mg x = some (.ref f)) (G : FnOk P w K mg base (L2N.CX P w) k f fd ps (spF ⟨mg, K⟩ ps.length F)) : FnS P w K mg base k x pa ps F := by
  obtain ⟨oc, od, dV, kV, doc, pm, an, cdv, ct, osl, rfl, lk, hcd, hd, hk⟩ := D.ex
  rcases hd with ⟨_, rfl⟩ | ⟨e, _⟩
  · exact ⟨⟨f, x, qual, body, scope, kV, doc, pm, an, cdv, ct, G, hm, D.kp⟩⟩
  · exact absurd rfl e
theorem fnOk_bad : FnOk P w K mg base (L2N.CX P w) k f fd ps (spF ⟨mg, K⟩ ps.length fun _ _ => .bad) :=
  ⟨fun vs H Q E ⟨io, M, ds, _, hv, hl, _⟩ => hv.length.symm.trans hl, fun A outer s H args us vs Q E hr e0 hb r ⟨io, M, ds, _, _, _, g⟩ => g.elim⟩
end
theorem cx_none {P : Program} {w : World} {H : Hp} {s : Shared} {e : Value} {s' : Shared} : L2N.CX P w [] H s (fun _ _ _ => False) e s' → False := fun h => by
  obtain ⟨_, _, _, _, _, _, _, _, _, _, _, _, z⟩ := h
  exact z.elim
theorem script_dv {G : Glb} {H : Hp} : ∀ ns : List Int, DVs G [] H (ns.map .int) (ns.map V.int)
  | [] => DVs.nil
  | n :: ns => DVs.cons rfl (script_dv ns)
theorem law_sp {K : PySem.W.Frag} {mg : Str → Option Value} {F : Fn} {H : Hp} {a : Addr} {ns : List Int} (hO : Only H) (hS : SqL K H a (ns.map V.int)) (h : ∃ M', F [script ns] [] = .ok (.bl true) M') : spF ⟨mg, K⟩ 1 F [.ref a] H (fun v _ => v = .bl true) fun _ _ _ => False := by
  obtain ⟨M', e⟩ := h
  refine ⟨[], [], [script ns], ⟨rfl, List.nodup_nil, fun _ _ _ h _ => by simp at h⟩, ⟨.ref a, [], rfl, ⟨a, ns.map V.int, rfl, ?_, script_dv ns⟩, rfl⟩, rfl, ?_⟩
  · intro H' k
    rcases hS with (h | ⟨o, h⟩) | h
    · rcases hO a with z | ⟨o, xs, z⟩
      · rw [z] at h; cases h
      · rw [z] at h; cases h
    · exact .inl (.inr ⟨o, k _ _ h⟩)
    · exact .inr h
  · rw [e]
    exact fun io' H' _ _ v hv => hv
/-- the law's call, from what its def does -/
theorem walk_law {l : PySem.W.OpenLaw} {n k : Nat} {q : Program} {loose : List Str} {XP : (Str → Option Value) → Heap → Prop} {YP : World → Heap → Prop} {d : DefRec} {x : Str}
    (hn : l.most = some n) (hn2 : n ≤ sizeLine) (hdf : d.params.defaults = []) (hr : Room k callerA)
    (F : ∀ (w : World) (mg : Str → Option Value) (fa : Addr) (h : Heap), YP w h → h.Ns mainGlobals mg → mg d.name = some (.ref fa) →
      ∃ (K : PySem.W.Frag) (fd : FuncData) (sp : Sp), K.In h ∧ (∀ (s : Shared) (u : Value), BindsTo s fd ⟨[u], []⟩ [(x, u)]) ∧
        (∀ (H : Hp) (a : Addr) (ns : List Int), ns.length ≤ n → Only H → SqL K H a (ns.map V.int) → sp [.ref a] H (fun v _ => v = .bl true) fun _ _ _ => False) ∧
        ∀ base : Heap, K.In base → base.Ns mainGlobals mg → FnOk l.prog w K mg base (L2N.CX l.prog w) k fa fd [x] sp) :
    PySem.W.WalkO q loose XP YP l.row.toRowW d [] (fun f vs => PySem.call f vs) := by
  refine Att.attach_call hn hdf fun w s₀ s₁ mg mb fa o pm cd doc a vs ns G Y ho hd hcd hmg hobj hints hlen hg => ?_
  obtain ⟨K, fd, sp, KX, hb, hsp, hF⟩ := F w mg fa _ Y G.T.g hmg
  exact law_call KX G.T.g G.T.b G.T.builtins G.T.nolimit hg hobj hints (Nat.le_trans hlen hn2) hr hF hb (fun H hO hS => hsp H a ns hlen hO hS) fun H e s' => cx_none
end Lp
namespace Gk02
open PySem PySem.Spec PyProof.Rows L2 Lp
/-! ### the text -/
def topS (i : Nat) : Stmt := PySem.Challenge.pw_lapwright_k02_labels_and_acts_before.main.body.getD i (.Pass ⟨0, 0, 0, 0⟩)
abbrev s_is_label : Stmt := topS 2
abbrev N_is_label : List Str := ["text", "sign"]
abbrev p_is_label : List Str := ["text"]
theorem sc_is_label : FnScope N_is_label p_is_label (defScope s_is_label) := ⟨rfl, rfl, rfl, by decide +kernel, rfl, by decide +kernel, by decide +kernel⟩
theorem bp_is_label : BindP (defArgs s_is_label) p_is_label := fun _ _ _ _ _ _ _ _ _ _ us hl => match us, hl with | [_], _ => rfl
abbrev s_is_before : Stmt := topS 3
abbrev N_is_before : List Str := ["one", "other"]
abbrev p_is_before : List Str := ["one", "other"]
theorem sc_is_before : FnScope N_is_before p_is_before (defScope s_is_before) := ⟨rfl, rfl, rfl, by decide +kernel, rfl, by decide +kernel, by decide +kernel⟩
theorem bp_is_before : BindP (defArgs s_is_before) p_is_before := fun _ _ _ _ _ _ _ _ _ _ us hl => match us, hl with | [_, _], _ => rfl
abbrev s_law_bag : Stmt := topS 5
abbrev N_law_bag : List Str := ["_law_script", "_law_salt", "_law_cell"]
abbrev p_law_bag : List Str := ["_law_script"]
theorem sc_law_bag : FnScope N_law_bag p_law_bag (defScope s_law_bag) := ⟨rfl, rfl, rfl, by decide +kernel, rfl, by decide +kernel, by decide +kernel⟩
theorem bp_law_bag : BindP (defArgs s_law_bag) p_law_bag := fun _ _ _ _ _ _ _ _ _ _ us hl => match us, hl with | [_], _ => rfl
abbrev s_law_pull : Stmt := topS 6
abbrev N_law_pull : List Str := ["_law_bag_here", "_law_sides", "_law_seed", "_law_cell", "_law_got"]
abbrev p_law_pull : List Str := ["_law_bag_here", "_law_sides"]
theorem sc_law_pull : FnScope N_law_pull p_law_pull (defScope s_law_pull) := ⟨rfl, rfl, rfl, by decide +kernel, rfl, by decide +kernel, by decide +kernel⟩
theorem bp_law_pull : BindP (defArgs s_law_pull) p_law_pull := fun _ _ _ _ _ _ _ _ _ _ us hl => match us, hl with | [_, _], _ => rfl
abbrev s_law_of : Stmt := topS 7
abbrev N_law_of : List Str := ["_law_bag_here", "_law_some"]
abbrev p_law_of : List Str := ["_law_bag_here", "_law_some"]
theorem sc_law_of : FnScope N_law_of p_law_of (defScope s_law_of) := ⟨rfl, rfl, rfl, by decide +kernel, rfl, by decide +kernel, by decide +kernel⟩
theorem bp_law_of : BindP (defArgs s_law_of) p_law_of := fun _ _ _ _ _ _ _ _ _ _ us hl => match us, hl with | [_, _], _ => rfl
abbrev s_law_same : Stmt := topS 8
abbrev N_law_same : List Str := ["_law_found", "_law_due", "_law_k"]
abbrev p_law_same : List Str := ["_law_found", "_law_due"]
theorem sc_law_same : FnScope N_law_same p_law_same (defScope s_law_same) := ⟨rfl, rfl, rfl, by decide +kernel, rfl, by decide +kernel, by decide +kernel⟩
theorem bp_law_same : BindP (defArgs s_law_same) p_law_same := fun _ _ _ _ _ _ _ _ _ _ us hl => match us, hl with | [_, _], _ => rfl
abbrev s_law_act : Stmt := topS 9
abbrev N_law_act : List Str := ["_law_bag_here", "_law_labels_z", "_law_wide", "_law_begun"]
abbrev p_law_act : List Str := ["_law_bag_here", "_law_labels_z", "_law_wide"]
theorem sc_law_act : FnScope N_law_act p_law_act (defScope s_law_act) := ⟨rfl, rfl, rfl, by decide +kernel, rfl, by decide +kernel, by decide +kernel⟩
theorem bp_law_act : BindP (defArgs s_law_act) p_law_act := fun _ _ _ _ _ _ _ _ _ _ us hl => match us, hl with | [_, _, _], _ => rfl
abbrev s_law_is_label : Stmt := topS 10
abbrev N_law_is_label : List Str := ["_law_text_z", "_law_sign"]
abbrev p_law_is_label : List Str := ["_law_text_z"]
theorem sc_law_is_label : FnScope N_law_is_label p_law_is_label (defScope s_law_is_label) := ⟨rfl, rfl, rfl, by decide +kernel, rfl, by decide +kernel, by decide +kernel⟩
theorem bp_law_is_label : BindP (defArgs s_law_is_label) p_law_is_label := fun _ _ _ _ _ _ _ _ _ _ us hl => match us, hl with | [_], _ => rfl
abbrev s_law : Stmt := topS 11
abbrev N_law : List Str := ["_law_script", "_law_bag_here", "_law_turn", "_law_word_z", "_law_found", "_law_one_here", "_law_second", "_law_k"]
abbrev p_law : List Str := ["_law_script"]
theorem sc_law : FnScope N_law p_law (defScope s_law) := ⟨rfl, rfl, rfl, by decide +kernel, rfl, by decide +kernel, by decide +kernel⟩
theorem bp_law : BindP (defArgs s_law) p_law := fun _ _ _ _ _ _ _ _ _ _ us hl => match us, hl with | [_], _ => rfl
theorem bk_is_before_0 : BindK (defArgs s_is_before) p_is_before 0 ["other", "one"] [1, 0] := fun _ _ _ _ _ _ _ _ _ _ us ws h1 h2 => match us, ws, h1, h2 with | [], [_, _], _, _ => rfl
theorem bk_is_label_0 : BindK (defArgs s_is_label) p_is_label 0 ["text"] [0] := fun _ _ _ _ _ _ _ _ _ _ us ws h1 h2 => match us, ws, h1, h2 with | [], [_], _, _ => rfl
/-! ### what the defs compute -/
abbrev Tbl := String → Fn
def d_is_label (T : Tbl) : DenS :=
  (dRet (dAnd (dChain fLe fLe (dC (.int 1)) (dBf fLen (dCons (dVar 0) dNil)) (dC (.int 6))) (dBf fAll (dCons (dLc (dSeqI (dVar 0)) (bName 1) dYes (dChain fLe fLe (dC (.str "a")) (dVar 1) (dC (.str "z"))) [1]) dNil))))
def d_is_before (T : Tbl) : DenS :=
  (dRet (dBin fLe (dBin fIx (dVar 0) (dC (.int 2))) (dBin fIx (dVar 1) (dC (.int 1)))))
def d_law_bag (T : Tbl) : DenS :=
  (dSeq (dAsg (dC (.int 9498)) (bName 1))
  (dSeq (dFor (dSeqI (dSl (dVar 0) dNoPart (dPart (dC (.int 63))))) (bName 2) (dAsg (dBin fMod (dBin fAdd (dBin fAdd (dBin fMulA (dVar 1) (dC (.int 45989))) (dBin fMod (dVar 2) (dC (.int 2147483587)))) (dC (.int 29))) (dC (.int 2147483647))) (bName 1)))
  (dRet (dLst (dCons (dBf fList (dCons (dSl (dVar 0) dNoPart (dPart (dC (.int 63)))) dNil)) (dCons (dC (.int 0)) (dCons (dC (.int 0)) (dCons (dVar 1) (dCons (dC (.int 0)) dNil)))))))))
def d_law_pull (T : Tbl) : DenS :=
  (dSeq (dIf (dAndT (dB (dBin fEq (dBin fIx (dVar 0) (dC (.int 2))) (dC (.int 0)))) (dB (dBin fLt (dBin fIx (dVar 0) (dC (.int 1))) (dBf fLen (dCons (dBin fIx (dVar 0) (dC (.int 0))) dNil))))) (dSeq (dAsg (dBin fIx (dBin fIx (dVar 0) (dC (.int 0))) (dBin fIx (dVar 0) (dC (.int 1)))) (bName 3))
  (dSeq (dSetIx (dBin fAdd (dBin fIx (dVar 0) (dC (.int 1))) (dC (.int 1))) (dVar 0) (dC (.int 1)))
  (dIf (dB (dBin fGe (dVar 3) (dBin fPow (dC (.int 10)) (dC (.int 18))))) (dSetIx (dVar 3) (dVar 0) (dC (.int 2))) (dSetIx (dBin fMod (dBin fAdd (dBin fAdd (dBin fMulA (dBin fIx (dVar 0) (dC (.int 3))) (dC (.int 37987))) (dBin fMod (dVar 3) (dC (.int 2147483579)))) (dC (.int 17))) (dC (.int 2147483647))) (dVar 0) (dC (.int 3)))))) dSkip)
  (dSeq (dIf (dB (dBin fGt (dBin fIx (dVar 0) (dC (.int 2))) (dC (.int 0)))) (dSeq (dAsg (dBin fMod (dBin fIx (dVar 0) (dC (.int 2))) (dVar 1)) (bName 4))
  (dSeq (dSetIx (dBin fDiv (dBin fIx (dVar 0) (dC (.int 2))) (dVar 1)) (dVar 0) (dC (.int 2)))
  (dRet (dVar 4)))) dSkip)
  (dSeq (dSetIx (dBin fAdd (dBin fIx (dVar 0) (dC (.int 4))) (dC (.int 1))) (dVar 0) (dC (.int 4)))
  (dSeq (dAsg (dBin fMod (dBin fAdd (dBin fIx (dVar 0) (dC (.int 3))) (dBin fMulA (dBin fIx (dVar 0) (dC (.int 4))) (dC (.int 7019)))) (dC (.int 2147483647))) (bName 2))
  (dSeq (dSetIx (dBin fMod (dBin fAdd (dBin fAdd (dBin fPow (dVar 2) (dC (.int 3))) (dBin fMulA (dC (.int 29989)) (dVar 2))) (dC (.int 2011))) (dC (.int 2147483647))) (dVar 0) (dC (.int 3)))
  (dRet (dBin fMod (dBin fAdd (dBin fDiv (dBin fIx (dVar 0) (dC (.int 3))) (dC (.int 71))) (dBin fMulA (dBin fMod (dBin fIx (dVar 0) (dC (.int 3))) (dC (.int 7907))) (dC (.int 47)))) (dVar 1))))))))
def d_law_of (T : Tbl) : DenS :=
  (dRet (dBin fIx (dVar 1) (dCall 2 (T "_law_pull") (dCons (dVar 0) (dCons (dBf fLen (dCons (dVar 1) dNil)) dNil)))))
def d_law_same (T : Tbl) : DenS :=
  (dSeq (dIf (dTru (dBf fIsi (dCons (dVar 1) (dCons (dTup (dCons (dC (.ty "list")) (dCons (dC (.ty "tuple")) dNil))) dNil)))) (dSeq (dIf (dOrT (dB (dBin fNe (dBf fIsi (dCons (dVar 0) (dCons (dC (.ty "list")) dNil))) (dBf fIsi (dCons (dVar 1) (dCons (dC (.ty "list")) dNil))))) (dB (dBin fNe (dBf fIsi (dCons (dVar 0) (dCons (dC (.ty "tuple")) dNil))) (dBf fIsi (dCons (dVar 1) (dCons (dC (.ty "tuple")) dNil)))))) (dRet (dC (.bl false))) dSkip)
  (dRet (dAnd (dBin fEq (dBf fLen (dCons (dVar 0) dNil)) (dBf fLen (dCons (dVar 1) dNil))) (dBf fAll (dCons (dLc (dRange1 (dCons (dBf fLen (dCons (dVar 1) dNil)) dNil)) (bName 2) dYes (dCall 2 (T "_law_same") (dCons (dBin fIx (dVar 0) (dVar 2)) (dCons (dBin fIx (dVar 1) (dVar 2)) dNil))) [2]) dNil))))) dSkip)
  (dSeq (dIf (dOrT (dB (dBin fIs (dVar 1) (dC .non))) (dB (dBin fIs (dVar 0) (dC .non)))) (dRet (dAnd (dBin fIs (dVar 0) (dC .non)) (dBin fIs (dVar 1) (dC .non)))) dSkip)
  (dSeq (dIf (dOrT (dB (dBin fNe (dBf fIsi (dCons (dVar 1) (dCons (dC (.ty "bool")) dNil))) (dBf fIsi (dCons (dVar 0) (dCons (dC (.ty "bool")) dNil))))) (dB (dBin fNe (dBf fIsi (dCons (dVar 1) (dCons (dC (.ty "int")) dNil))) (dBf fIsi (dCons (dVar 0) (dCons (dC (.ty "int")) dNil)))))) (dRet (dC (.bl false))) dSkip)
  (dRet (dAnd (dBin fEq (dBf fIsi (dCons (dVar 1) (dCons (dC (.ty "str")) dNil))) (dBf fIsi (dCons (dVar 0) (dCons (dC (.ty "str")) dNil)))) (dBin fEq (dVar 0) (dVar 1)))))))
def d_law_act (T : Tbl) : DenS :=
  (dSeq (dAsg (dCall 2 (T "_law_pull") (dCons (dVar 0) (dCons (dVar 2) dNil))) (bName 3))
  (dRet (dTup (dCons (dCall 2 (T "_law_of") (dCons (dVar 0) (dCons (dVar 1) dNil))) (dCons (dVar 3) (dCons (dBin fAdd (dBin fAdd (dVar 3) (dC (.int 1))) (dCall 2 (T "_law_pull") (dCons (dVar 0) (dCons (dVar 2) dNil)))) dNil))))))
def d_law_is_label (T : Tbl) : DenS :=
  (dRet (dAnd (dChain fLe fLe (dC (.int 1)) (dBf fLen (dCons (dVar 0) dNil)) (dC (.int 6))) (dBf fAll (dCons (dLc (dSeqI (dVar 0)) (bName 1) dYes (dChain fLe fLe (dC (.str "a")) (dVar 1) (dC (.str "z"))) [1]) dNil))))
def d_law (T : Tbl) : DenS :=
  (dSeq (dAsg (dCall 1 (T "_law_bag") (dCons (dVar 0) dNil)) (bName 1))
  (dSeq (dFor (dRange1 (dCons (dC (.int 8)) dNil)) (bName 2) (dSeq (dAsg (dMt "str" fJoin (dC (.str "")) (dCons (dLc (dRange1 (dCons (dCall 2 (T "_law_pull") (dCons (dVar 1) (dCons (dC (.int 9)) dNil))) dNil)) (bName 7) dYes (dCall 2 (T "_law_of") (dCons (dVar 1) (dCons (dSl (dLst (dCons (dC (.str "a")) (dCons (dC (.str "z")) (dCons (dC (.str "m")) (dCons (dC (.str "q")) (dCons (dC (.str "A")) (dCons (dC (.str "0")) (dCons (dC (.str " ")) (dCons (dC (.str "-")) dNil))))))))) dNoPart (dPart (dCall 2 (T "_law_of") (dCons (dVar 1) (dCons (dLst (dCons (dC (.int 4)) (dCons (dC (.int 4)) (dCons (dC (.int 8)) dNil)))) dNil))))) dNil))) [7]) dNil)) (bName 3))
  (dSeq (dIf (dNotT (dTru (dCall 2 (T "_law_same") (dCons (dLst (dCons (dCall 1 (T "is_label") (dCons (dVar 3) dNil)) (dCons (dCallK 0 1 [0] (T "is_label") dNil (dCons (dVar 3) dNil)) dNil))) (dCons (dBin fMulA (dLst (dCons (dCall 1 (T "_law_is_label") (dCons (dVar 3) dNil)) dNil)) (dC (.int 2))) dNil))))) (dRet (dC (.bl false))) dSkip)
  (dSeq (dPar [5, 6] (dCons (dCall 3 (T "_law_act") (dCons (dVar 1) (dCons (dLst (dCons (dC (.str "a")) (dCons (dC (.str "b")) dNil))) (dCons (dC (.int 9)) dNil)))) (dCons (dCall 3 (T "_law_act") (dCons (dVar 1) (dCons (dLst (dCons (dC (.str "a")) dNil)) (dCons (dC (.int 9)) dNil)))) dNil)))
  (dSeq (dAsg (dLst (dCons (dCall 2 (T "is_before") (dCons (dVar 5) (dCons (dVar 6) dNil))) (dCons (dCallK 0 2 [1, 0] (T "is_before") dNil (dCons (dVar 5) (dCons (dVar 6) dNil))) dNil))) (bName 4))
  (dIf (dNotT (dTru (dCall 2 (T "_law_same") (dCons (dVar 4) (dCons (dLst (dCons (dBin fLe (dBin fIx (dVar 5) (dC (.int 2))) (dBin fIx (dVar 6) (dC (.int 1)))) (dCons (dBin fLe (dBin fIx (dVar 6) (dC (.int 2))) (dBin fIx (dVar 5) (dC (.int 1)))) dNil))) dNil))))) (dRet (dC (.bl false))) dSkip))))))
  (dRet (dAnd (dCall 1 (T "is_label") (dCons (dC (.str "abcdef")) dNil)) (dAnd (dNot (dCall 1 (T "is_label") (dCons (dC (.str "abcdefg")) dNil))) (dNot (dCall 1 (T "is_label") (dCons (dC (.str "")) dNil))))))))
def tbl : Nat → Tbl
  | 0 => fun _ _ _ => .bad
  | k + 1 => fun f => match f with
    | "is_label" => fnOfDen 2 (d_is_label (tbl k))
    | "is_before" => fnOfDen 2 (d_is_before (tbl k))
    | "_law_bag" => fnOfDen 3 (d_law_bag (tbl k))
    | "_law_pull" => fnOfDen 5 (d_law_pull (tbl k))
    | "_law_of" => fnOfDen 2 (d_law_of (tbl k))
    | "_law_same" => fnOfDen 3 (d_law_same (tbl k))
    | "_law_act" => fnOfDen 4 (d_law_act (tbl k))
    | "_law_is_label" => fnOfDen 2 (d_law_is_label (tbl k))
    | "law" => fnOfDen 8 (d_law (tbl k))
    | _ => fun _ _ => .bad
/-! ### what the top has written -/
structure Facts (mg : Str → Option Value) : Prop where
  n_all : mg "all" = none
  n_bool : mg "bool" = none
  n_int : mg "int" = none
  n_isinstance : mg "isinstance" = none
  n_len : mg "len" = none
  n_list : mg "list" = none
  n_range : mg "range" = none
  n_str : mg "str" = none
  n_tuple : mg "tuple" = none
  c_MAX_LABEL : ∃ u, mg "MAX_LABEL" = some u ∧ RelV (V.int 6) u
structure Fns (P : Program) (w : World) (K : PySem.W.Frag) (mg : Str → Option Value) (base : Heap) (k : Nat) : Prop where
  f_is_label : FnS P w K mg base k "is_label" (defArgs s_is_label) p_is_label (tbl k "is_label")
  f_is_before : FnS P w K mg base k "is_before" (defArgs s_is_before) p_is_before (tbl k "is_before")
  f_law_bag : FnS P w K mg base k "_law_bag" (defArgs s_law_bag) p_law_bag (tbl k "_law_bag")
  f_law_pull : FnS P w K mg base k "_law_pull" (defArgs s_law_pull) p_law_pull (tbl k "_law_pull")
  f_law_of : FnS P w K mg base k "_law_of" (defArgs s_law_of) p_law_of (tbl k "_law_of")
  f_law_same : FnS P w K mg base k "_law_same" (defArgs s_law_same) p_law_same (tbl k "_law_same")
  f_law_act : FnS P w K mg base k "_law_act" (defArgs s_law_act) p_law_act (tbl k "_law_act")
  f_law_is_label : FnS P w K mg base k "_law_is_label" (defArgs s_law_is_label) p_law_is_label (tbl k "_law_is_label")
  f_law : FnS P w K mg base k "law" (defArgs s_law) p_law (tbl k "law")
abbrev FunP (K : PySem.W.Frag) (x : Str) (st : Stmt) (f : Addr) (fd : FuncData) : Prop := FunD K x x (defArgs st) (defBody st) (defScope st) [] [] f fd
section
variable {P : Program} {w : World} {K : PySem.W.Frag} {mg : Str → Option Value} {base : Heap} {f : Addr} {fd : FuncData} {k : Nat}
theorem ok_is_label (Ft : Facts mg) (h : Fns P w K mg base k) (F : FunP K "is_label" s_is_label f fd) : FnOk P w K mg base (L2N.CX P w) (k + 1) f fd p_is_label (spF ⟨mg, K⟩ p_is_label.length (tbl (k + 1) "is_label")) := by
  have nd := sc_is_label.nd
  refine fn_den F sc_is_label fun cdv A outer s H E B => ?_
  exact (dss_one (ds_ret (de_and (de_chain ck_le ck_le de_int (de_len Ft.n_len (da_cons (de_var 0) da_nil)) (de_glob Ft.c_MAX_LABEL)) (de_one (de_all B.std.calm Ft.n_all (da_cons (de_lc [("sign", 1)] B.std.calm nd (di_seq (de_var 0)) (by kernel_rfl) (fun _ _ _ _ _ => (dgw_name 1 nd)) (fun _ _ _ _ _ => dts_nil) (fun _ _ _ _ _ => (de_chain ck_le ck_le de_str (de_var 1) de_str))) da_nil))))))
theorem ok_is_before (Ft : Facts mg) (h : Fns P w K mg base k) (F : FunP K "is_before" s_is_before f fd) : FnOk P w K mg base (L2N.CX P w) (k + 1) f fd p_is_before (spF ⟨mg, K⟩ p_is_before.length (tbl (k + 1) "is_before")) := by
  have nd := sc_is_before.nd
  refine fn_den F sc_is_before fun cdv A outer s H E B => ?_
  exact (dss_one (ds_ret (de_cmp ck_le (de_ix (de_var 0) de_int) (de_ix (de_var 1) de_int))))
theorem ok_law_bag (Ft : Facts mg) (h : Fns P w K mg base k) (F : FunP K "_law_bag" s_law_bag f fd) : FnOk P w K mg base (L2N.CX P w) (k + 1) f fd p_law_bag (spF ⟨mg, K⟩ p_law_bag.length (tbl (k + 1) "_law_bag")) := by
  have nd := sc_law_bag.nd
  refine fn_den F sc_law_bag fun cdv A outer s H E B => ?_
  exact (dss_cons (ds_set 1 nd de_int)
  (dss_cons (ds_for B.own B.std.calm (di_seq (de_slice (de_var 0) do_none (do_some de_int))) (dg_name 2 nd) (dss_one (ds_set 1 nd (de_mod (de_add (de_add (de_mul (de_var 1) de_int) (de_mod (de_var 2) de_int)) de_int) de_int))))
  (dss_one (ds_ret (de_lst (da_cons (de_list Ft.n_list (da_cons (de_slice (de_var 0) do_none (do_some de_int)) da_nil)) (da_cons de_int (da_cons de_int (da_cons (de_var 1) (da_cons de_int da_nil))))))))))
theorem ok_law_pull (Ft : Facts mg) (h : Fns P w K mg base k) (F : FunP K "_law_pull" s_law_pull f fd) : FnOk P w K mg base (L2N.CX P w) (k + 1) f fd p_law_pull (spF ⟨mg, K⟩ p_law_pull.length (tbl (k + 1) "_law_pull")) := by
  have nd := sc_law_pull.nd
  refine fn_den F sc_law_pull fun cdv A outer s H E B => ?_
  exact (dss_cons (ds_if (dt_w (dw_and (dt_cmp (ck_eq B.std) (de_ix (de_var 0) de_int) de_int) (dw_and1 (dt_cmp ck_lt (de_ix (de_var 0) de_int) (de_len Ft.n_len (da_cons (de_ix (de_var 0) de_int) da_nil)))))) (dss_cons (ds_set 3 nd (de_ix (de_ix (de_var 0) de_int) (de_ix (de_var 0) de_int)))
  (dss_cons (ds_setIx (de_add (de_ix (de_var 0) de_int) de_int) (de_var 0) de_int)
  (dss_one (ds_if (dt_cmp ck_ge (de_var 3) (de_pow de_int de_int)) (dss_one (ds_setIx (de_var 3) (de_var 0) de_int)) (dss_one (ds_setIx (de_mod (de_add (de_add (de_mul (de_ix (de_var 0) de_int) de_int) (de_mod (de_var 3) de_int)) de_int) de_int) (de_var 0) de_int)))))) dss_nil)
  (dss_cons (ds_if (dt_cmp ck_gt (de_ix (de_var 0) de_int) de_int) (dss_cons (ds_set 4 nd (de_mod (de_ix (de_var 0) de_int) (de_var 1)))
  (dss_cons (ds_setIx (de_div (de_ix (de_var 0) de_int) (de_var 1)) (de_var 0) de_int)
  (dss_one (ds_ret (de_var 4))))) dss_nil)
  (dss_cons (ds_setIx (de_add (de_ix (de_var 0) de_int) de_int) (de_var 0) de_int)
  (dss_cons (ds_set 2 nd (de_mod (de_add (de_ix (de_var 0) de_int) (de_mul (de_ix (de_var 0) de_int) de_int)) de_int))
  (dss_cons (ds_setIx (de_mod (de_add (de_add (de_pow (de_var 2) de_int) (de_mul de_int (de_var 2))) de_int) de_int) (de_var 0) de_int)
  (dss_one (ds_ret (de_mod (de_add (de_div (de_ix (de_var 0) de_int) de_int) (de_mul (de_mod (de_ix (de_var 0) de_int) de_int) de_int)) (de_var 1)))))))))
theorem ok_law_of (Ft : Facts mg) (h : Fns P w K mg base k) (F : FunP K "_law_of" s_law_of f fd) : FnOk P w K mg base (L2N.CX P w) (k + 1) f fd p_law_of (spF ⟨mg, K⟩ p_law_of.length (tbl (k + 1) "_law_of")) := by
  have nd := sc_law_of.nd
  refine fn_den F sc_law_of fun cdv A outer s H E B => ?_
  exact (dss_one (ds_ret (de_ix (de_var 1) (de_call h.f_law_pull (Nat.le_refl _) B.room B.tk bp_law_pull (da_cons (de_var 0) (da_cons (de_len Ft.n_len (da_cons (de_var 1) da_nil)) da_nil)) 2))))
theorem ok_law_same (Ft : Facts mg) (h : Fns P w K mg base k) (F : FunP K "_law_same" s_law_same f fd) : FnOk P w K mg base (L2N.CX P w) (k + 1) f fd p_law_same (spF ⟨mg, K⟩ p_law_same.length (tbl (k + 1) "_law_same")) := by
  have nd := sc_law_same.nd
  refine fn_den F sc_law_same fun cdv A outer s H E B => ?_
  exact (dss_cons (ds_if (dt_tru (de_isi Ft.n_isinstance (da_cons (de_var 1) (da_cons (de_tup (da_cons (de_ty Ft.n_list) (da_cons (de_ty Ft.n_tuple) da_nil))) da_nil)))) (dss_cons (ds_if (dt_w (dw_or (dt_cmp (ck_ne B.std) (de_isi Ft.n_isinstance (da_cons (de_var 0) (da_cons (de_ty Ft.n_list) da_nil))) (de_isi Ft.n_isinstance (da_cons (de_var 1) (da_cons (de_ty Ft.n_list) da_nil)))) (dw_or1 (dt_cmp (ck_ne B.std) (de_isi Ft.n_isinstance (da_cons (de_var 0) (da_cons (de_ty Ft.n_tuple) da_nil))) (de_isi Ft.n_isinstance (da_cons (de_var 1) (da_cons (de_ty Ft.n_tuple) da_nil))))))) (dss_one (ds_ret de_bl)) dss_nil)
  (dss_one (ds_ret (de_and (de_cmp (ck_eq B.std) (de_len Ft.n_len (da_cons (de_var 0) da_nil)) (de_len Ft.n_len (da_cons (de_var 1) da_nil))) (de_one (de_all B.std.calm Ft.n_all (da_cons (de_lc [("_law_k", 2)] B.std.calm nd (di_range1 (da_cons (de_len Ft.n_len (da_cons (de_var 1) da_nil)) da_nil) Ft.n_range) (by kernel_rfl) (fun _ _ _ _ _ => (dgw_name 2 nd)) (fun _ _ _ _ _ => dts_nil) (fun _ _ _ _ _ => (de_call h.f_law_same (Nat.le_refl _) (by exact B.room) (by exact tk0) bp_law_same (da_cons (de_ix (de_var 0) (de_var 2)) (da_cons (de_ix (de_var 1) (de_var 2)) da_nil)) 2))) da_nil))))))) dss_nil)
  (dss_cons (ds_if (dt_w (dw_or (dt_cmp ck_is (de_var 1) de_non) (dw_or1 (dt_cmp ck_is (de_var 0) de_non)))) (dss_one (ds_ret (de_and (de_cmp ck_is (de_var 0) de_non) (de_one (de_cmp ck_is (de_var 1) de_non))))) dss_nil)
  (dss_cons (ds_if (dt_w (dw_or (dt_cmp (ck_ne B.std) (de_isi Ft.n_isinstance (da_cons (de_var 1) (da_cons (de_ty Ft.n_bool) da_nil))) (de_isi Ft.n_isinstance (da_cons (de_var 0) (da_cons (de_ty Ft.n_bool) da_nil)))) (dw_or1 (dt_cmp (ck_ne B.std) (de_isi Ft.n_isinstance (da_cons (de_var 1) (da_cons (de_ty Ft.n_int) da_nil))) (de_isi Ft.n_isinstance (da_cons (de_var 0) (da_cons (de_ty Ft.n_int) da_nil))))))) (dss_one (ds_ret de_bl)) dss_nil)
  (dss_one (ds_ret (de_and (de_cmp (ck_eq B.std) (de_isi Ft.n_isinstance (da_cons (de_var 1) (da_cons (de_ty Ft.n_str) da_nil))) (de_isi Ft.n_isinstance (da_cons (de_var 0) (da_cons (de_ty Ft.n_str) da_nil)))) (de_one (de_cmp (ck_eq B.std) (de_var 0) (de_var 1)))))))))
theorem ok_law_act (Ft : Facts mg) (h : Fns P w K mg base k) (F : FunP K "_law_act" s_law_act f fd) : FnOk P w K mg base (L2N.CX P w) (k + 1) f fd p_law_act (spF ⟨mg, K⟩ p_law_act.length (tbl (k + 1) "_law_act")) := by
  have nd := sc_law_act.nd
  refine fn_den F sc_law_act fun cdv A outer s H E B => ?_
  exact (dss_cons (ds_set 3 nd (de_call h.f_law_pull (Nat.le_refl _) B.room B.tk bp_law_pull (da_cons (de_var 0) (da_cons (de_var 2) da_nil)) 2))
  (dss_one (ds_ret (de_tup (da_cons (de_call h.f_law_of (Nat.le_refl _) B.room B.tk bp_law_of (da_cons (de_var 0) (da_cons (de_var 1) da_nil)) 2) (da_cons (de_var 3) (da_cons (de_add (de_add (de_var 3) de_int) (de_call h.f_law_pull (Nat.le_refl _) B.room B.tk bp_law_pull (da_cons (de_var 0) (da_cons (de_var 2) da_nil)) 2)) da_nil)))))))
theorem ok_law_is_label (Ft : Facts mg) (h : Fns P w K mg base k) (F : FunP K "_law_is_label" s_law_is_label f fd) : FnOk P w K mg base (L2N.CX P w) (k + 1) f fd p_law_is_label (spF ⟨mg, K⟩ p_law_is_label.length (tbl (k + 1) "_law_is_label")) := by
  have nd := sc_law_is_label.nd
  refine fn_den F sc_law_is_label fun cdv A outer s H E B => ?_
  exact (dss_one (ds_ret (de_and (de_chain ck_le ck_le de_int (de_len Ft.n_len (da_cons (de_var 0) da_nil)) de_int) (de_one (de_all B.std.calm Ft.n_all (da_cons (de_lc [("_law_sign", 1)] B.std.calm nd (di_seq (de_var 0)) (by kernel_rfl) (fun _ _ _ _ _ => (dgw_name 1 nd)) (fun _ _ _ _ _ => dts_nil) (fun _ _ _ _ _ => (de_chain ck_le ck_le de_str (de_var 1) de_str))) da_nil))))))
theorem ok_law (Ft : Facts mg) (h : Fns P w K mg base k) (F : FunP K "law" s_law f fd) : FnOk P w K mg base (L2N.CX P w) (k + 1) f fd p_law (spF ⟨mg, K⟩ p_law.length (tbl (k + 1) "law")) := by
  have nd := sc_law.nd
  refine fn_den F sc_law fun cdv A outer s H E B => ?_
  exact (dss_cons (ds_set 1 nd (de_call h.f_law_bag (Nat.le_refl _) B.room B.tk bp_law_bag (da_cons (de_var 0) da_nil) 1))
  (dss_cons (ds_for B.own B.std.calm (di_range1 (da_cons de_int da_nil) Ft.n_range) (dg_name 2 nd) (dss_cons (ds_set 3 nd (de_join de_str (da_cons (de_lc [("_law_k", 7)] B.std.calm nd (di_range1 (da_cons (de_call h.f_law_pull (Nat.le_refl _) B.room B.tk bp_law_pull (da_cons (de_var 1) (da_cons de_int da_nil)) 2) da_nil) Ft.n_range) (by kernel_rfl) (fun _ _ _ _ _ => (dgw_name 7 nd)) (fun _ _ _ _ _ => dts_nil) (fun _ _ _ _ _ => (de_call h.f_law_of (Nat.le_refl _) (by exact B.room) (by exact tk0) bp_law_of (da_cons (de_var 1) (da_cons (de_slice (de_lst (da_cons de_str (da_cons de_str (da_cons de_str (da_cons de_str (da_cons de_str (da_cons de_str (da_cons de_str (da_cons de_str da_nil))))))))) do_none (do_some (de_call h.f_law_of (Nat.le_refl _) (by exact B.room) (by exact tk0) bp_law_of (da_cons (de_var 1) (da_cons (de_lst (da_cons de_int (da_cons de_int (da_cons de_int da_nil)))) da_nil)) 2))) da_nil)) 2))) da_nil)))
  (dss_cons (ds_if (dt_not (dt_tru (de_call h.f_law_same (Nat.le_refl _) B.room B.tk bp_law_same (da_cons (de_lst (da_cons (de_call h.f_is_label (Nat.le_refl _) B.room B.tk bp_is_label (da_cons (de_var 3) da_nil) 1) (da_cons (de_callK0 ["text"] [0] h.f_is_label (Nat.le_refl _) B.room B.tk bk_is_label_0 (dk_cons (de_var 3) dk_nil)) da_nil))) (da_cons (de_mul (de_lst (da_cons (de_call h.f_law_is_label (Nat.le_refl _) B.room B.tk bp_law_is_label (da_cons (de_var 3) da_nil) 1) da_nil)) de_int) da_nil)) 2))) (dss_one (ds_ret de_bl)) dss_nil)
  (dss_cons (ds_par2 5 6 B.std.calm nd (da_cons (de_call h.f_law_act (Nat.le_refl _) B.room B.tk bp_law_act (da_cons (de_var 1) (da_cons (de_lst (da_cons de_str (da_cons de_str da_nil))) (da_cons de_int da_nil))) 3) (da_cons (de_call h.f_law_act (Nat.le_refl _) B.room B.tk bp_law_act (da_cons (de_var 1) (da_cons (de_lst (da_cons de_str da_nil)) (da_cons de_int da_nil))) 3) da_nil)))
  (dss_cons (ds_set 4 nd (de_lst (da_cons (de_call h.f_is_before (Nat.le_refl _) B.room B.tk bp_is_before (da_cons (de_var 5) (da_cons (de_var 6) da_nil)) 2) (da_cons (de_callK0 ["other", "one"] [1, 0] h.f_is_before (Nat.le_refl _) B.room B.tk bk_is_before_0 (dk_cons (de_var 5) (dk_cons (de_var 6) dk_nil))) da_nil))))
  (dss_one (ds_if (dt_not (dt_tru (de_call h.f_law_same (Nat.le_refl _) B.room B.tk bp_law_same (da_cons (de_var 4) (da_cons (de_lst (da_cons (de_cmp ck_le (de_ix (de_var 5) de_int) (de_ix (de_var 6) de_int)) (da_cons (de_cmp ck_le (de_ix (de_var 6) de_int) (de_ix (de_var 5) de_int)) da_nil))) da_nil)) 2))) (dss_one (ds_ret de_bl)) dss_nil)))))))
  (dss_one (ds_ret (de_and (de_call h.f_is_label (Nat.le_refl _) B.room B.tk bp_is_label (da_cons de_str da_nil) 1) (de_and (de_not (de_call h.f_is_label (Nat.le_refl _) B.room B.tk bp_is_label (da_cons de_str da_nil) 1)) (de_one (de_not (de_call h.f_is_label (Nat.le_refl _) B.room B.tk bp_is_label (da_cons de_str da_nil) 1)))))))))
end
end Gk02
namespace Gk02
open PySem PySem.Spec PyProof.Rows L2 Lp
def LV : Nat := 100
theorem pull_at (k : Nat) : PullS (tbl (k + 1) "_law_pull") := pull_spec (T := tbl k)
theorem bag_at (k : Nat) : BagS (tbl (k + 1) "_law_bag") := bag_spec (T := tbl k)
theorem of_at (k : Nat) : OfS (tbl (k + 2) "_law_of") := of_spec (T := tbl (k + 1)) (pull_at k)
theorem act_at (k : Nat) : ActS (tbl (k + 3) "_law_act") := act_spec (T := tbl (k + 2)) (pull_at (k + 1)) (of_at k)
theorem same_at : ∀ k : Nat, SameS k (tbl k "_law_same")
  | 0 => fun M b x y p Q h => absurd h (Nat.not_lt_zero _)
  | k + 1 => same_spec (T := tbl k) (same_at k)
theorem lab_at (k : Nat) : LabS (tbl (k + 1) "is_label") := label_spec (T := tbl k)
theorem llab_at (k : Nat) : LabS (tbl (k + 1) "_law_is_label") := label_spec (T := tbl k)
/-- the letters a word is made of -/
def letters : List Str := ["a", "z", "m", "q", "A", "0", " ", "-"]
theorem letters_one : ∀ y ∈ letters, y.length ≤ 1 := by decide +kernel
theorem cut_letters {r : Int} (hr : r = 4 ∨ r = 8) : ∃ ys : List Str, (∀ y ∈ ys, y.length ≤ 1) ∧ 0 < ys.length ∧ ys.length ≤ 8 ∧ cutD (letters.map D.str) none (some r) = ys.map D.str := by
  rcases hr with rfl | rfl
  · exact ⟨letters.take 4, fun y hy => letters_one y (List.mem_of_mem_take hy), by decide, by decide, rfl⟩
  · exact ⟨letters, letters_one, by decide, by decide, rfl⟩
theorem fSl_ref {M : Mem} {l : Nat} {xs : List D} {lo hi : Option Int} (h : M[l]? = some (.lst xs)) : fSl (.ref l) lo hi M = some (.ref M.length, M ++ [.lst (cutD xs lo hi)]) := by simp only [fSl, h]
def dWord : Den := (dMt "str" fJoin (dC (.str "")) (dCons (dLc (dRange1 (dCons (dCall 2 (tbl 100 "_law_pull") (dCons (dVar 1) (dCons (dC (.int 9)) dNil))) dNil)) (bName 7) dYes (dCall 2 (tbl 100 "_law_of") (dCons (dVar 1) (dCons (dSl (dLst (dCons (dC (.str "a")) (dCons (dC (.str "z")) (dCons (dC (.str "m")) (dCons (dC (.str "q")) (dCons (dC (.str "A")) (dCons (dC (.str "0")) (dCons (dC (.str " ")) (dCons (dC (.str "-")) dNil))))))))) dNoPart (dPart (dCall 2 (tbl 100 "_law_of") (dCons (dVar 1) (dCons (dLst (dCons (dC (.int 4)) (dCons (dC (.int 4)) (dCons (dC (.int 8)) dNil)))) dNil))))) dNil))) [7]) dNil))
theorem word_ok {M : Mem} {b c : Nat} {s : D} {x2 x3 x4 x5 x6 x7 : Option D} {Q : D → Mem → Prop} (hB : Bag M b c) (hQ : ∀ (w : Str) (M' : Mem), w.length ≤ 8 → Bag M' b c → Q (.str w) M') : Ok (dWord [some s, some (.ref b), x2, x3, x4, x5, x6, x7] M) Q := by
  unfold dWord
  simp only [ok_mt, ok_C, ok_cons, ok_nil]
  refine ⟨rfl, ok_lc ?_⟩
  simp only [ok_range1, ok_cons, ok_nil, ok_call, ok_var, ok_C, List.getElem?_cons_zero, List.getElem?_cons_succ, Option.some.injEq, exists_eq_left']
  refine ⟨rfl, pull_at 99 _ _ _ _ _ hB (by decide) (by decide) fun r M1 r0 r1 b1 _ => ?_⟩
  have hP : P62 = 4611686018427387904 := rfl
  have hS : SZ = 16777216 := rfl
  have l1 := b1.lt
  have l2 := b1.ltc
  refine ⟨r, rfl, ⟨by omega, by omega⟩, ?_⟩
  refine lcIt_ok (fun i acc M' => Bag M' b c ∧ ∃ ys : List Str, acc = ys.map .str ∧ ys.length = i ∧ (ys.map (·.length)).sum ≤ i) r.toNat (fun i acc M2 hi hl hJ => ?_) (fun acc M2 hl hJ => ?_) (r.toNat + 1) 0 [] _ (by omega) (Nat.zero_le _) (by simp) ⟨b1.app, [], rfl, rfl, by decide⟩
  · obtain ⟨b2, ys, rfl, rfl, hz⟩ := hJ
    refine ⟨by simp; omega, .int (0 + (ys.length : Int)), _, by show some (if ys.length < r.toNat then some (D.int (0 + ys.length)) else none) = _; rw [if_pos hi], rfl, ?_⟩
    have ew : (wipeE [some s, some (.ref b), x2, x3, x4, x5, x6, x7] [7]).set 7 (some (.int (0 + (ys.length : Int)))) = [some s, some (.ref b), x2, x3, x4, x5, x6, some (.int (0 + (ys.length : Int)))] := rfl
    rw [ew]
    simp only [ok_yes, if_true, ok_call, ok_cons, ok_nil, ok_var, ok_sl, ok_lst, ok_C, ok_noPart, ok_part, List.getElem?_cons_zero, List.getElem?_cons_succ, Option.some.injEq, exists_eq_left']
    refine ⟨(by decide : 8 ≤ SZ), (by decide : 3 ≤ SZ), rfl, ?_⟩
    have b3 : Bag (M2 ++ [MO.lst (letters.map D.str)] ++ [MO.lst [D.int 4, .int 4, .int 8]]) b c := b2.app.app
    have n1 := b2.lt
    have n2 := b2.ltc
    refine of_at 98 _ b c _ [D.int 4, .int 4, .int 8] _ b3 (.inr ⟨_, rfl, ?_, List.getElem?_concat_length⟩) (by decide) (by decide) fun x M4 hx b4 f4 => ?_
    · simp; omega
    have hx : x = .int 4 ∨ x = .int 8 := by simpa using hx
    have key : ∀ r : Int, r = 4 ∨ r = 8 → Ok (lift (fSl (D.ref M2.length) none (some r) M4)) fun x M1_1 => [D.ref b, x].length = 2 ∧ Ok (tbl 100 "_law_of" [D.ref b, x] M1_1) fun y M2 => M2[M1.length]? = some (MO.lst (List.map D.str ys)) ∧ Bag (M2.set M1.length (MO.lst (List.map D.str ys ++ [y]))) b c ∧ ∃ ys_1, List.map D.str ys ++ [y] = List.map D.str ys_1 ∧ ys_1.length = ys.length + 1 ∧ (List.map (fun x => x.length) ys_1).sum ≤ ys.length + 1 := by
      intro r hr
      obtain ⟨zs, z1, z2, z3, z4⟩ := cut_letters hr
      have g4 : M4[M2.length]? = some (MO.lst (letters.map D.str)) := f4.at_ (by simp; rfl) (by omega)
      rw [fSl_ref g4, ok_lift, z4]
      have lm := f4.len
      simp at lm
      refine ⟨rfl, of_at 98 _ b c _ (zs.map D.str) _ b4.app (.inr ⟨_, rfl, by omega, List.getElem?_concat_length⟩) (by simpa using z2) (by simp; omega) fun x M5 hx b5 f5 => ?_⟩
      obtain ⟨z, hz1, rfl⟩ := List.mem_map.mp hx
      have hl1 : M1.length < M2.length := (List.getElem?_eq_some_iff.mp hl).1
      have f : Fr b M2 M5 := (((Fr.app.trans Fr.app).trans f4).trans Fr.app).trans f5
      refine ⟨f.at_ hl (by omega), b5.set (by omega) (by omega), ys ++ [z], by simp, by simp, ?_⟩
      simp only [List.map_append, List.sum_append, List.map_cons, List.map_nil, List.sum_cons, List.sum_nil]
      have := z1 z hz1
      omega
    rcases hx with rfl | rfl
    · exact ⟨4, rfl, key 4 (.inl rfl)⟩
    · exact ⟨8, rfl, key 8 (.inr rfl)⟩
  · obtain ⟨b2, ys, rfl, h3, h4⟩ := hJ
    refine ⟨by show some (if r.toNat < r.toNat then some (D.int (0 + r.toNat)) else none) = _; rw [if_neg (Nat.lt_irrefl _)], ?_⟩
    rw [fJoin0_ref hl (by omega), ok_lift]
    refine hQ _ _ ?_ b2
    have : (Sx (ys.flatMap fun y => y.cps.toList)).length = (ys.flatMap fun y => y.cps.toList).length := by show (ys.flatMap fun y => y.cps.toList).toArray.size = _; simp
    rw [this, len_sum]
    omega
theorem before_at {k : Nat} {M : Mem} {x y : D} {i j i' j' : Int} : tbl (k + 1) "is_before" [.tup [x, .int i, .int j], .tup [y, .int i', .int j']] M = .ok (.bl (decide (j ≤ i'))) M := rfl
theorem fIx_t1 {M : Mem} {x : D} {i j : Int} : fIx (.tup [x, .int i, .int j]) (.int 1) M = some (.int i, M) := rfl
theorem fIx_t2 {M : Mem} {x : D} {i j : Int} : fIx (.tup [x, .int i, .int j]) (.int 2) M = some (.int j, M) := rfl
theorem law_true (ns : List Int) (h : ns.length ≤ 63) : ∃ M', tbl (LV + 1) "law" [script ns] [] = .ok (.bl true) M' := by
  have key : Ok (fnOfDen 8 (d_law (tbl 100)) [script ns] []) fun v _ => v = .bl true := by
    rw [ok_den]
    have e : startE 8 [script ns] = [some (script ns), none, none, none, none, none, none, none] := rfl
    rw [e]
    unfold d_law
    simp only [okS_seq, okS_asg, ok_call, ok_cons, ok_nil, ok_var, bName_at, List.getElem?_cons_zero, List.getElem?_cons_succ, Option.some.injEq, exists_eq_left', List.set_cons_succ, List.set_cons_zero]
    refine ⟨rfl, bag_at 99 _ _ _ h fun b c M hB _ _ => ?_⟩
    refine okS_for ?_
    simp only [ok_range1, ok_cons, ok_nil, ok_C]
    refine ⟨8, rfl, by decide, ?_⟩
    refine for_range_ok (fun i ρ M' => Bag M' b c ∧ ∃ x2 x3 x4 x5 x6 x7, ρ = [some (script ns), some (.ref b), x2, x3, x4, x5, x6, x7]) ⟨hB, _, _, _, _, _, _, rfl⟩ (fun i ρ M' hi hJ => ?_) (fun ρ M' hJ => ?_)
    · obtain ⟨b1, x2, x3, x4, x5, x6, x7, rfl⟩ := hJ
      refine ⟨_, rfl, ?_⟩
      rw [okS_seq, okS_asg]
      refine word_ok b1 fun w M1 hw b2 => ?_
      have hS : SZ = 16777216 := rfl
      simp only [okS_seq, okS_if, okS_skip, okS_par, okS_ret, okS_asg, ok_notT, ok_tru, ok_call, ok_callK, ok_cons, ok_nil, ok_lst, ok_bin, ok_var, ok_C, bName_at, List.getElem?_cons_zero, List.getElem?_cons_succ, Option.some.injEq, exists_eq_left', List.set_cons_succ, List.set_cons_zero]
      refine ⟨rfl, lab_at 99 _ _ _ (by omega) fun M2 a2 => ?_⟩
      refine ⟨⟨rfl, rfl, rfl⟩, lab_at 99 _ _ _ (by omega) fun M3 a3 => ?_⟩
      refine ⟨(by decide : 2 ≤ SZ), rfl, llab_at 99 _ _ _ (by omega) fun M4 a4 => ?_⟩
      refine ⟨(by decide : 1 ≤ SZ), ?_⟩
      rw [fMul_list List.getElem?_concat_length (by decide) (by decide) (by show 1 * 2 ≤ SZ; decide), ok_lift]
      have b3 : Bag M3 b c := a3.bag (a2.bag b2)
      have b4 : Bag M4 b c := a4.bag b3.app
      have n3 := b3.lt
      have n4 := b4.lt
      refine ⟨rfl, same_at 100 _ b _ _ (.list [.bool (labB w), .bool (labB w)]) _ (by simp [PyData.depth, PyData.depthAll]) ?_ ?_ fun M5 a5 => ?_⟩
      · exact ⟨_, .inr ⟨_, rfl, by omega, ((a4.trans Al.app).trans Al.app).at_ List.getElem?_concat_length⟩, (by decide : 2 ≤ SZ), rfl, rfl, trivial⟩
      · exact ⟨_, .inr ⟨_, rfl, by simp; omega, List.getElem?_concat_length⟩, (by decide : 2 ≤ SZ), rfl, rfl, trivial⟩
      refine ⟨true, rfl, ?_⟩
      simp only [Bool.not_true, Bool.false_eq_true, if_false]
      have b5 : Bag M5 b c := a5.bag b4.app.app
      have n5 := b5.lt
      refine ⟨(by decide : 2 ≤ SZ), rfl, act_at 97 _ b c _ [.str "a", .str "b"] _ _ b5.app (.inr ⟨_, rfl, by omega, List.getElem?_concat_length⟩) (by decide) (by decide) (by decide) (by decide) fun x i j M6 hx i0 i1 j0 j1 b6 f6 => ?_⟩
      have n6 := b6.lt
      refine ⟨(by decide : 1 ≤ SZ), rfl, act_at 97 _ b c _ [.str "a"] _ _ b6.app (.inr ⟨_, rfl, by omega, List.getElem?_concat_length⟩) (by decide) (by decide) (by decide) (by decide) fun y i' j' M7 hy i0' i1' j0' j1' b7 f7 => ?_⟩
      refine ⟨_, rfl, ?_⟩
      simp only [List.set_cons_succ, List.set_cons_zero, List.getElem?_cons_zero, List.getElem?_cons_succ, Option.some.injEq, exists_eq_left', before_at, ok_ok, fIx_t1, fIx_t2, ok_lift, fLe_int]
      refine ⟨rfl, ⟨rfl, rfl, rfl⟩, ?_⟩
      show Ok (tbl 100 "is_before" [D.tup [y, D.int i', D.int j'], D.tup [x, D.int i, D.int j]] M7) _
      rw [before_at, ok_ok]
      refine ⟨(by decide : 2 ≤ SZ), (by decide : 2 ≤ SZ), rfl, ?_⟩
      have n7 := b7.lt
      refine same_at 100 _ b _ _ (.list [.bool (decide (j ≤ i')), .bool (decide (j' ≤ i))]) _ (by simp [PyData.depth, PyData.depthAll]) ?_ ?_ fun M8 a8 => ?_
      · exact ⟨_, .inr ⟨_, rfl, by omega, (Al.app).at_ List.getElem?_concat_length⟩, (by decide : 2 ≤ SZ), rfl, rfl, trivial⟩
      · exact ⟨_, .inr ⟨_, rfl, by simp; omega, List.getElem?_concat_length⟩, (by decide : 2 ≤ SZ), rfl, rfl, trivial⟩
      refine ⟨true, rfl, ?_⟩
      simp only [Bool.not_true, Bool.false_eq_true, if_false]
      exact ⟨a8.bag b7.app.app, _, _, _, _, _, _, rfl⟩
    · obtain ⟨b1, x2, x3, x4, x5, x6, x7, rfl⟩ := hJ
      simp only [okS_ret, ok_and, ok_not, ok_call, ok_cons, ok_nil, ok_C]
      refine ⟨rfl, lab_at 99 _ _ _ (by decide +kernel) fun M1 a1 => ?_⟩
      have l1 : labB (Str.ofString "abcdef") = true := by decide +kernel
      have l2 : labB (Str.ofString "abcdefg") = false := by decide +kernel
      have l3 : labB (Str.ofString "") = false := by decide +kernel
      rw [l1]
      refine ⟨true, rfl, ?_⟩
      simp only [if_true]
      refine ⟨rfl, lab_at 99 _ _ _ (by decide +kernel) fun M2 a2 => ?_⟩
      rw [l2]
      refine ⟨false, rfl, true, rfl, ?_⟩
      simp only [if_true]
      refine ⟨rfl, lab_at 99 _ _ _ (by decide +kernel) fun M3 a3 => ?_⟩
      rw [l3]
      exact ⟨false, rfl, rfl⟩
  obtain ⟨a, M', e1, e2⟩ := key.ex
  exact ⟨M', e1.trans (by rw [e2])⟩
end Gk02
namespace Gk02
open PySem PySem.Spec PyProof.Rows L2 Lp
/-! ### the head -/
def D_is_label : He.DefD := ⟨("is_label", none), "is_label", "is_label", defArgs s_is_label, defBody s_is_label, defScope s_is_label, [], []⟩
def D_is_before : He.DefD := ⟨("is_before", none), "is_before", "is_before", defArgs s_is_before, defBody s_is_before, defScope s_is_before, [], []⟩
def D_law_bag : He.DefD := ⟨("_law_bag", none), "_law_bag", "_law_bag", defArgs s_law_bag, defBody s_law_bag, defScope s_law_bag, [], []⟩
def D_law_pull : He.DefD := ⟨("_law_pull", none), "_law_pull", "_law_pull", defArgs s_law_pull, defBody s_law_pull, defScope s_law_pull, [], []⟩
def D_law_of : He.DefD := ⟨("_law_of", none), "_law_of", "_law_of", defArgs s_law_of, defBody s_law_of, defScope s_law_of, [], []⟩
def D_law_same : He.DefD := ⟨("_law_same", none), "_law_same", "_law_same", defArgs s_law_same, defBody s_law_same, defScope s_law_same, [], []⟩
def D_law_act : He.DefD := ⟨("_law_act", none), "_law_act", "_law_act", defArgs s_law_act, defBody s_law_act, defScope s_law_act, [], []⟩
def D_law_is_label : He.DefD := ⟨("_law_is_label", none), "_law_is_label", "_law_is_label", defArgs s_law_is_label, defBody s_law_is_label, defScope s_law_is_label, [], []⟩
def D_law : He.DefD := ⟨("law", none), "law", "law", defArgs s_law, defBody s_law, defScope s_law, [], []⟩
def fnl : List He.DefD := [D_is_label, D_is_before, D_law_bag, D_law_pull, D_law_of, D_law_same, D_law_act, D_law_is_label, D_law]
def fal : List He.Fa := [.glo "is_label", .glo "is_before", .glo "_law_bag", .glo "_law_pull", .glo "_law_of", .glo "_law_same", .glo "_law_act", .glo "_law_is_label", .glo "law", .free "all", .free "bool", .free "int", .free "isinstance", .free "len", .free "list", .free "range", .free "str", .free "tuple", .int "MAX_LABEL" 6]
abbrev R : PySem.W.OpenRow := PySem.W.OpenLaw.row PySem.Challenge.rw_lapwright_k02_labels_and_acts_before
abbrev hk : PySem.W.Hook := He.hookD 4 fal fnl
def ob (s : PySem.W.SharedT) : He.AlD := He.obsDG 4 fal fnl (HandSHeadRun.getT s)
theorem ob_eq (s : PySem.W.SharedT) : ob s = hk.obs s.abs := He.obsDG_eq (HandSHeadRun.getT_eq s)
def names : List PySem.Str := (["MAX_LABEL", "is_label", "is_before", "_law_bag", "_law_pull", "_law_of", "_law_same", "_law_act", "_law_is_label"] : List PySem.Str)
theorem run (w : World) : HandSHeadRun.RunEq R (PySem.W.view R.prog [11]) hk ob 20000 names w := by
  intro os
  kernel_rfl
theorem facts_of {K : PySem.W.Frag} {h : Heap} {mg : Str → Option Value} (X : K.In h) (G : h.Ns mainGlobals mg) (c : He.SaysD fal fnl K) : Facts mg where
  n_all := He.free_ok X G (c.fact 9 (f := .free "all") rfl)
  n_bool := He.free_ok X G (c.fact 10 (f := .free "bool") rfl)
  n_int := He.free_ok X G (c.fact 11 (f := .free "int") rfl)
  n_isinstance := He.free_ok X G (c.fact 12 (f := .free "isinstance") rfl)
  n_len := He.free_ok X G (c.fact 13 (f := .free "len") rfl)
  n_list := He.free_ok X G (c.fact 14 (f := .free "list") rfl)
  n_range := He.free_ok X G (c.fact 15 (f := .free "range") rfl)
  n_str := He.free_ok X G (c.fact 16 (f := .free "str") rfl)
  n_tuple := He.free_ok X G (c.fact 17 (f := .free "tuple") rfl)
  c_MAX_LABEL := let ⟨t, e⟩ := He.int_ok X G (c.fact 18 (f := .int "MAX_LABEL" 6) rfl); ⟨_, e, t, rfl⟩
theorem fns_of {P : Program} {w : World} {K : PySem.W.Frag} {h base : Heap} {mg : Str → Option Value} (X : K.In h) (G : h.Ns mainGlobals mg) (c : He.SaysD fal fnl K) : ∀ k, Fns P w K mg base k := by
  have Ft := facts_of X G c
  obtain ⟨fd0, F0⟩ := c.def_ 0 (d := D_is_label) rfl
  have g0 := He.glo_ok X G (c.fact 0 (f := .glo "is_label") rfl)
  obtain ⟨fd1, F1⟩ := c.def_ 1 (d := D_is_before) rfl
  have g1 := He.glo_ok X G (c.fact 1 (f := .glo "is_before") rfl)
  obtain ⟨fd2, F2⟩ := c.def_ 2 (d := D_law_bag) rfl
  have g2 := He.glo_ok X G (c.fact 2 (f := .glo "_law_bag") rfl)
  obtain ⟨fd3, F3⟩ := c.def_ 3 (d := D_law_pull) rfl
  have g3 := He.glo_ok X G (c.fact 3 (f := .glo "_law_pull") rfl)
  obtain ⟨fd4, F4⟩ := c.def_ 4 (d := D_law_of) rfl
  have g4 := He.glo_ok X G (c.fact 4 (f := .glo "_law_of") rfl)
  obtain ⟨fd5, F5⟩ := c.def_ 5 (d := D_law_same) rfl
  have g5 := He.glo_ok X G (c.fact 5 (f := .glo "_law_same") rfl)
  obtain ⟨fd6, F6⟩ := c.def_ 6 (d := D_law_act) rfl
  have g6 := He.glo_ok X G (c.fact 6 (f := .glo "_law_act") rfl)
  obtain ⟨fd7, F7⟩ := c.def_ 7 (d := D_law_is_label) rfl
  have g7 := He.glo_ok X G (c.fact 7 (f := .glo "_law_is_label") rfl)
  obtain ⟨fd8, F8⟩ := c.def_ 8 (d := D_law) rfl
  have g8 := He.glo_ok X G (c.fact 8 (f := .glo "law") rfl)
  intro k
  induction k with
  | zero => exact ⟨fnS_mk F0 g0 fnOk_bad, fnS_mk F1 g1 fnOk_bad, fnS_mk F2 g2 fnOk_bad, fnS_mk F3 g3 fnOk_bad, fnS_mk F4 g4 fnOk_bad, fnS_mk F5 g5 fnOk_bad, fnS_mk F6 g6 fnOk_bad, fnS_mk F7 g7 fnOk_bad, fnS_mk F8 g8 fnOk_bad⟩
  | succ k ih => exact ⟨fnS_mk F0 g0 (ok_is_label Ft ih F0), fnS_mk F1 g1 (ok_is_before Ft ih F1), fnS_mk F2 g2 (ok_law_bag Ft ih F2), fnS_mk F3 g3 (ok_law_pull Ft ih F3), fnS_mk F4 g4 (ok_law_of Ft ih F4), fnS_mk F5 g5 (ok_law_same Ft ih F5), fnS_mk F6 g6 (ok_law_act Ft ih F6), fnS_mk F7 g7 (ok_law_is_label Ft ih F7), fnS_mk F8 g8 (ok_law Ft ih F8)⟩
theorem law_ok {P : Program} {w : World} {K : PySem.W.Frag} {h : Heap} {mg : Str → Option Value} {f : Addr} (X : K.In h) (G : h.Ns mainGlobals mg) (hfa : mg ("law" : Str) = some (.ref f)) (c : He.SaysD fal fnl K) :
    ∃ fd : FuncData, (∀ (s : Shared) (v : Value), BindsTo s fd ⟨[v], []⟩ [("_law_script", v)]) ∧ ∀ base : Heap, FnOk P w K mg base (L2N.CX P w) (LV + 1) f fd p_law (spF ⟨mg, K⟩ 1 (tbl (LV + 1) "law")) := by
  obtain ⟨fd, F⟩ := c.def_ 8 (d := D_law) rfl
  have e := hfa.symm.trans (He.glo_ok X G (c.fact 8 (f := .glo "law") rfl))
  cases e
  have b := FunD.bindsA (ps := p_law) F fun kV doc pm an cdv ct us hl => bp_law _ _ _ _ _ _ _ _ _ _ us hl
  exact ⟨fd, fun s v => b s [v] rfl, fun base => ok_law (facts_of X G c) (fns_of X G c LV) F⟩
end Gk02
open PySem PySem.W PySem.Calls PyProof.Rows
set_option maxHeartbeats 0 in
theorem PySem.Challenge.cw_lapwright_k02_labels_and_acts_before_holds : PySem.Challenge.rw_lapwright_k02_labels_and_acts_before.Holds := by
  w_on; o_law
  refine HandSHeadRun.head_any (r := OpenLaw.row PySem.Challenge.rw_lapwright_k02_labels_and_acts_before) (q := view (OpenLaw.row PySem.Challenge.rw_lapwright_k02_labels_and_acts_before).prog [11]) (H := Gk02.hk) (ob := Gk02.ob) (M := 20000) (loose := Gk02.names) (d := HandSHeadRun.topDef (OpenLaw.row PySem.Challenge.rw_lapwright_k02_labels_and_acts_before).prog 11) (kwd := []) Gk02.ob_eq
    (by kernel_rfl) (fun s => by kernel_rfl) Gk02.run (by kernel_rfl) (by kernel_rfl) (by kernel_rfl) (by rfl) (by first | assumption | decide +kernel) (by decide +kernel) ⟨rfl, rfl, rfl, rfl, rfl, by decide +kernel⟩ ?hw ?hc
  case hw => w_witness2
  case hc =>
    refine Lp.walk_law (l := PySem.Challenge.rw_lapwright_k02_labels_and_acts_before) (n := 63) (k := Gk02.LV + 1) (x := "_law_script") rfl (by decide) (by kernel_rfl) ⟨rfl, by decide, by decide⟩ ?F
    intro w mg fa h Y G hmg0
    obtain ⟨K, KX, c⟩ := Y
    have hmg : mg ("law" : PySem.Str) = some (.ref fa) := by
      have e : (HandSHeadRun.topDef (OpenLaw.row PySem.Challenge.rw_lapwright_k02_labels_and_acts_before).prog 11).name = ("law" : PySem.Str) := by kernel_rfl
      rw [← e]
      exact hmg0
    obtain ⟨fd, hb, hF⟩ := Gk02.law_ok (P := (PySem.Challenge.rw_lapwright_k02_labels_and_acts_before).prog) (w := w) KX G hmg c
    exact ⟨K, fd, _, KX, hb, fun H a ns hl hO hS => Lp.law_sp hO hS (Gk02.law_true ns hl), fun base _ _ => hF base⟩
