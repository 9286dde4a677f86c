import PyProof.Rows.All
import Wide.All
import OpenK.AllK
import Wide.FinOn
import HandS.ForMost
import HandS.WideBits
import HandS.Wide
import HandS.Deep
import HandS.IsInst
import HandS.Flow
import HandS.Iter
import HandS.ExcOwn
import HandS.CallSlots
import HandS.Style
import HandS.WideMore
import HandS.Walk
import HandS.Zip
import HandS.Rev
import HandS.More
import HandS.Star
import HandS.SortInts
import HandS.Text
import HandS.RaiseMore
import HandS.SetFor
import HandS.Strs
import HandS.TupSets
import HandS.Conv
import HandS.EndBits
import HandS.HeadHook1
import KE.IntBitsLaws
import PyProof.ReprLen
import HandS.Head0
import HandS.Head1
import HandS.Head2
import PySem.Challenge.RW_marketdays_k06_widest_waits
set_option Elab.async false
set_option linter.all false
set_option maxRecDepth 100000
set_option maxHeartbeats 0
namespace DL
open PySem PySem.Spec PyProof.Rows L2

/-! data: what a value stands for -/
inductive D where
  | non | bl (b : Bool) | int (i : Int) | str (s : Str)
  | tup (xs : List D) | lst (xs : List D) | dic (ks : List Key) (xs : List D) | obj (c : Nat) (ns : List Str) (xs : List D)
  | scr (ns : List Int)
  deriving Inhabited
/-- data some of whose changeable parts are owned (nobody else holds them) -/
inductive T where
  | fz (d : D) | lst (xs : List T) | tup (xs : List T) | dic (ks : List Key) (xs : List T) | obj (c : Nat) (ns : List Str) (xs : List T)
  deriving Inhabited

mutual
def T.d : T → D
  | .fz d => d
  | .lst xs => .lst (T.ds xs)
  | .tup xs => .tup (T.ds xs)
  | .dic ks xs => .dic ks (T.ds xs)
  | .obj c ns xs => .obj c ns (T.ds xs)
def T.ds : List T → List D
  | [] => []
  | t :: ts => t.d :: T.ds ts
end
theorem T.ds_map : ∀ ts : List T, T.ds ts = ts.map T.d
  | [] => rfl
  | t :: ts => by rw [T.ds, List.map_cons, T.ds_map ts]

structure Gx where
  K : PySem.W.Frag
  cls : Nat → Addr

mutual
def Rep (g : Gx) (H : Hp) : D → V → Prop
  | .non, v => v = .non
  | .bl b, v => v = .bl b
  | .int i, v => v = .int i
  | .str s, v => v = .str s
  | .tup ds, v => ∃ a vs, v = .ref a ∧ SqT g.K H a vs ∧ Reps g H ds vs
  | .lst ds, v => ∃ a vs, v = .ref a ∧ Rd H a (.lst vs) ∧ Reps g H ds vs
  | .scr ns, v => ∃ a, v = .ref a ∧ SqL g.K H a (ns.map V.int)
  | .dic ks ds, v => ∃ a vs, v = .ref a ∧ H a = some (.dK (ks.zip vs)) ∧ ks.length = vs.length ∧ Reps g H ds vs
  | .obj c ns ds, v => ∃ a dx vs, v = .ref a ∧ H a = some (.ins (g.cls c) dx (ns.zip vs)) ∧ H dx = some (.own a) ∧ ns.length = vs.length ∧ Reps g H ds vs
def Reps (g : Gx) (H : Hp) : List D → List V → Prop
  | [], vs => vs = []
  | d :: ds, vs => ∃ v vs', vs = v :: vs' ∧ Rep g H d v ∧ Reps g H ds vs'
end
mutual
def RepT (g : Gx) (Hs H : Hp) : T → V → List Addr → Prop
  | .fz d, v, fp => Rep g Hs d v ∧ fp = []
  | .tup ts, v, fp => ∃ a vs, v = .ref a ∧ Hs a = some (.tup vs) ∧ RepTs g Hs H ts vs fp
  | .lst ts, v, fp => ∃ a vs fp', v = .ref a ∧ H a = some (.lst vs) ∧ fp = a :: fp' ∧ RepTs g Hs H ts vs fp'
  | .dic ks ts, v, fp => ∃ a vs fp', v = .ref a ∧ H a = some (.dK (ks.zip vs)) ∧ ks.length = vs.length ∧ fp = a :: fp' ∧ RepTs g Hs H ts vs fp'
  | .obj c ns ts, v, fp => ∃ a dx vs fp', v = .ref a ∧ H a = some (.ins (g.cls c) dx (ns.zip vs)) ∧ H dx = some (.own a) ∧ ns.length = vs.length ∧ fp = a :: dx :: fp' ∧ RepTs g Hs H ts vs fp'
def RepTs (g : Gx) (Hs H : Hp) : List T → List V → List Addr → Prop
  | [], vs, fp => vs = [] ∧ fp = []
  | t :: ts, vs, fp => ∃ v vs' f f', vs = v :: vs' ∧ fp = f ++ f' ∧ RepT g Hs H t v f ∧ RepTs g Hs H ts vs' f'
end

section
variable {g : Gx} {H H' Hs Hs' : Hp}
theorem Same.sqL {K : PySem.W.Frag} {a : Addr} {xs : List V} (e : Same H H') (h : SqL K H a xs) : SqL K H' a xs := e.seq h
theorem Same.rd {a : Addr} {u : HO} (e : Same H H') (h : Rd H a u) : Rd H' a u := h.imp (e _ _) fun ⟨o, q⟩ => ⟨o, e _ _ q⟩
theorem Same.sqT {K : PySem.W.Frag} {a : Addr} {xs : List V} (e : Same H H') (h : SqT K H a xs) : SqT K H' a xs := by
  rcases h with (h | ⟨o, h⟩) | h
  · exact .inl (.inl (e _ _ h))
  · exact .inl (.inr ⟨o, e _ _ h⟩)
  · exact .inr h
mutual
theorem Rep.mono (s : Same H H') : ∀ {d : D} {v : V}, Rep g H d v → Rep g H' d v
  | .non, _, h => h
  | .bl _, _, h => h
  | .int _, _, h => h
  | .str _, _, h => h
  | .tup ds, _, h => by
    simp only [Rep] at h ⊢
    obtain ⟨a, vs, e, q, r⟩ := h
    exact ⟨a, vs, e, Same.sqT s q, Reps.mono s r⟩
  | .lst ds, _, h => by
    simp only [Rep] at h ⊢
    obtain ⟨a, vs, e, q, r⟩ := h
    exact ⟨a, vs, e, Same.rd s q, Reps.mono s r⟩
  | .scr ns, _, h => by
    simp only [Rep] at h ⊢
    obtain ⟨a, e, q⟩ := h
    exact ⟨a, e, Same.sqL s q⟩
  | .dic ks ds, _, h => by
    simp only [Rep] at h ⊢
    obtain ⟨a, vs, e, q, l, r⟩ := h
    exact ⟨a, vs, e, s _ _ q, l, Reps.mono s r⟩
  | .obj c ns ds, _, h => by
    simp only [Rep] at h ⊢
    obtain ⟨a, dx, vs, e, q, q', l, r⟩ := h
    exact ⟨a, dx, vs, e, s _ _ q, s _ _ q', l, Reps.mono s r⟩
theorem Reps.mono (s : Same H H') : ∀ {ds : List D} {vs : List V}, Reps g H ds vs → Reps g H' ds vs
  | [], _, h => by
    simp only [Reps] at h ⊢
    exact h
  | d :: ds, _, h => by
    simp only [Reps] at h ⊢
    obtain ⟨v, vs', e, q, r⟩ := h
    exact ⟨v, vs', e, Rep.mono s q, Reps.mono s r⟩
end
mutual
theorem RepT.keep (s : Same Hs Hs') : ∀ {t : T} {v : V} {fp : List Addr}, (∀ a ∈ fp, H' a = H a) → RepT g Hs H t v fp → RepT g Hs' H' t v fp
  | .fz d, _, _, _, h => by
    simp only [RepT] at h ⊢
    exact ⟨h.1.mono s, h.2⟩
  | .tup ts, _, _, k, h => by
    simp only [RepT] at h ⊢
    obtain ⟨a, vs, e, q, r⟩ := h
    exact ⟨a, vs, e, s _ _ q, RepTs.keep s k r⟩
  | .lst ts, _, _, k, h => by
    simp only [RepT] at h ⊢
    obtain ⟨a, vs, fp', e, q, ef, r⟩ := h
    subst ef
    exact ⟨a, vs, fp', e, (k a (by simp)).trans q, rfl, RepTs.keep s (fun b hb => k b (by simp [hb])) r⟩
  | .dic ks ts, _, _, k, h => by
    simp only [RepT] at h ⊢
    obtain ⟨a, vs, fp', e, q, l, ef, r⟩ := h
    subst ef
    exact ⟨a, vs, fp', e, (k a (by simp)).trans q, l, rfl, RepTs.keep s (fun b hb => k b (by simp [hb])) r⟩
  | .obj c ns ts, _, _, k, h => by
    simp only [RepT] at h ⊢
    obtain ⟨a, dx, vs, fp', e, q, q', l, ef, r⟩ := h
    subst ef
    exact ⟨a, dx, vs, fp', e, (k a (by simp)).trans q, (k dx (by simp)).trans q', l, rfl, RepTs.keep s (fun b hb => k b (by simp [hb])) r⟩
theorem RepTs.keep (s : Same Hs Hs') : ∀ {ts : List T} {vs : List V} {fp : List Addr}, (∀ a ∈ fp, H' a = H a) → RepTs g Hs H ts vs fp → RepTs g Hs' H' ts vs fp
  | [], _, _, _, h => by
    simp only [RepTs] at h ⊢
    exact h
  | t :: ts, _, _, k, h => by
    simp only [RepTs] at h ⊢
    obtain ⟨v, vs', f, f', e, ef, q, r⟩ := h
    subst ef
    exact ⟨v, vs', f, f', e, rfl, RepT.keep s (fun b hb => k b (by simp [hb])) q, RepTs.keep s (fun b hb => k b (by simp [hb])) r⟩
end
/-- what is owned is frozen: the frozen heap takes it in -/
def frzH (Hs H : Hp) (fp : List Addr) : Hp := fun a => if a ∈ fp then H a else Hs a
mutual
/-- a tree as data, over any heap that has its frozen part and its own nodes -/
theorem RepT.toD (s : Same Hs Hs') : ∀ {t : T} {v : V} {fp : List Addr}, (∀ a ∈ fp, Hs' a = H a) → RepT g Hs H t v fp → Rep g Hs' t.d v
  | .fz d, _, _, _, h => by
    simp only [RepT] at h
    simp only [T.d]
    exact h.1.mono s
  | .tup ts, _, _, k, h => by
    simp only [RepT] at h
    simp only [T.d, Rep]
    obtain ⟨a, vs, e, q, r⟩ := h
    exact ⟨a, vs, e, SqT.of (s _ _ q), RepTs.toD s k r⟩
  | .lst ts, _, _, k, h => by
    simp only [RepT] at h
    simp only [T.d, Rep]
    obtain ⟨a, vs, fp', e, q, ef, r⟩ := h
    subst ef
    exact ⟨a, vs, e, .inl ((k a (by simp)).trans q), RepTs.toD s (fun b hb => k b (by simp [hb])) r⟩
  | .dic ks ts, _, _, k, h => by
    simp only [RepT] at h
    simp only [T.d, Rep]
    obtain ⟨a, vs, fp', e, q, l, ef, r⟩ := h
    subst ef
    exact ⟨a, vs, e, (k a (by simp)).trans q, l, RepTs.toD s (fun b hb => k b (by simp [hb])) r⟩
  | .obj c ns ts, _, _, k, h => by
    simp only [RepT] at h
    simp only [T.d, Rep]
    obtain ⟨a, dx, vs, fp', e, q, q', l, ef, r⟩ := h
    subst ef
    exact ⟨a, dx, vs, e, (k a (by simp)).trans q, (k dx (by simp)).trans q', l, RepTs.toD s (fun b hb => k b (by simp [hb])) r⟩
theorem RepTs.toD (s : Same Hs Hs') : ∀ {ts : List T} {vs : List V} {fp : List Addr}, (∀ a ∈ fp, Hs' a = H a) → RepTs g Hs H ts vs fp → Reps g Hs' (T.ds ts) vs
  | [], _, _, _, h => by
    simp only [RepTs] at h
    simp only [T.ds, Reps]
    exact h.1
  | t :: ts, _, _, k, h => by
    simp only [RepTs] at h
    simp only [T.ds, Reps]
    obtain ⟨v, vs', f, f', e, ef, q, r⟩ := h
    subst ef
    exact ⟨v, vs', e, RepT.toD s (fun b hb => k b (by simp [hb])) q, RepTs.toD s (fun b hb => k b (by simp [hb])) r⟩
end
theorem RepT.now (s : Same Hs H) {t : T} {v : V} {fp : List Addr} (h : RepT g Hs H t v fp) : Rep g H t.d v := h.toD s fun _ _ => rfl
theorem Reps.length : ∀ {ds : List D} {vs : List V}, Reps g H ds vs → vs.length = ds.length
  | [], _, h => by
    simp only [Reps] at h
    simp [h]
  | d :: ds, _, h => by
    simp only [Reps] at h
    obtain ⟨v, vs', e, _, r⟩ := h
    subst e
    simp [Reps.length r]
theorem RepTs.length : ∀ {ts : List T} {vs : List V} {fp : List Addr}, RepTs g Hs H ts vs fp → vs.length = ts.length
  | [], _, _, h => by
    simp only [RepTs] at h
    simp [h]
  | t :: ts, _, _, h => by
    simp only [RepTs] at h
    obtain ⟨v, vs', f, f', e, _, _, r⟩ := h
    subst e
    simp [RepTs.length r]
end
end DL
namespace DL
open PySem PySem.Spec L2

abbrev Sl := List (Option T)
def RepE (g : Gx) (Hs H : Hp) : Sl → St → List Addr → Prop
  | [], σ, fp => σ = [] ∧ fp = []
  | none :: ρ, σ, fp => ∃ o σ', σ = o :: σ' ∧ RepE g Hs H ρ σ' fp
  | some t :: ρ, σ, fp => ∃ v σ' f f', σ = some v :: σ' ∧ fp = f ++ f' ∧ RepT g Hs H t v f ∧ RepE g Hs H ρ σ' f'
/-- what is at hand: groups of values -/
abbrev Tm := List (List V × List T)
def RepX (g : Gx) (Hs H : Hp) : Tm → List Addr → Prop
  | [], fp => fp = []
  | p :: τ, fp => ∃ f f', fp = f ++ f' ∧ RepTs g Hs H p.2 p.1 f ∧ RepX g Hs H τ f'
/-- a call's entry: the heap, what of it is frozen, what is owned by the arguments, slots that stay -/
structure Fr0 where
  H : Hp
  S : Hp
  F : List Addr
  P : List (Nat × V)

structure Ok (g : Gx) (e : Fr0) (ρ : Sl) (τ : Tm) (σ : St) (H Hs : Hp) : Prop where
  sub : Same Hs H
  sub0 : Same e.S Hs
  new : ∀ a, Hs a ≠ none → e.S a ≠ none ∨ e.H a = none ∨ a ∈ e.F
  frame : ∀ a, a ∉ e.F → e.H a ≠ none → H a = e.H a
  there : ∀ a, e.H a ≠ none → H a ≠ none
  fix : ∀ p ∈ e.P, σ[p.1]? = some (some p.2)
  own : ∃ fs ft, RepE g Hs H ρ σ fs ∧ RepX g Hs H τ ft ∧ (∀ a, fs.count a + ft.count a ≤ 1) ∧ (∀ a, a ∈ fs ∨ a ∈ ft → Hs a = none ∧ H a ≠ none ∧ (e.H a = none ∨ a ∈ e.F))

section
variable {g : Gx} {H H' Hs Hs' : Hp} {e : Fr0} {ρ ρ' : Sl} {τ τ' : Tm} {σ σ' : St}
theorem RepE.keep (s : Same Hs Hs') : ∀ {ρ : Sl} {σ : St} {fp : List Addr}, (∀ a ∈ fp, H' a = H a) → RepE g Hs H ρ σ fp → RepE g Hs' H' ρ σ fp
  | [], _, _, _, h => h
  | none :: ρ, _, _, k, h => by
    obtain ⟨o, σ', e, r⟩ := h
    exact ⟨o, σ', e, RepE.keep s k r⟩
  | some t :: ρ, _, _, k, h => by
    obtain ⟨v, σ', f, f', e, ef, q, r⟩ := h
    subst ef
    exact ⟨v, σ', f, f', e, rfl, q.keep s fun b hb => k b (by simp [hb]), RepE.keep s (fun b hb => k b (by simp [hb])) r⟩
theorem RepTs.one {v : V} {t : T} {f : List Addr} : RepTs g Hs H [t] [v] f ↔ RepT g Hs H t v f := by
  simp only [RepTs]
  constructor
  · rintro ⟨w, vs', f1, f2, e, ef, q, rfl, rfl⟩
    obtain ⟨rfl, _⟩ := List.cons.inj e
    rw [ef, List.append_nil]
    exact q
  · intro q
    exact ⟨v, [], f, [], rfl, (List.append_nil f).symm, q, rfl, rfl⟩
theorem RepX.keep (s : Same Hs Hs') : ∀ {τ : Tm} {fp : List Addr}, (∀ a ∈ fp, H' a = H a) → RepX g Hs H τ fp → RepX g Hs' H' τ fp
  | [], _, _, h => h
  | p :: τ, _, k, h => by
    obtain ⟨f, f', ef, q, r⟩ := h
    subst ef
    exact ⟨f, f', rfl, RepTs.keep s (fun b hb => k b (by simp [hb])) q, RepX.keep s (fun b hb => k b (by simp [hb])) r⟩
theorem RepE.get : ∀ {ρ : Sl} {σ : St} {fp : List Addr} {i : Nat} {t : T}, RepE g Hs H ρ σ fp → ρ[i]? = some (some t) → ∃ v f, σ[i]? = some (some v) ∧ RepT g Hs H t v f ∧ (∀ a, f.count a ≤ fp.count a)
  | [], _, _, _, _, _, h => by simp at h
  | none :: ρ, _, _, 0, _, _, h => by simp at h
  | none :: ρ, _, _, i + 1, _, r, h => by
    obtain ⟨o, σ', e, r⟩ := r
    subst e
    simpa using RepE.get r (by simpa using h)
  | some t :: ρ, _, _, 0, _, r, h => by
    obtain ⟨v, σ', f, f', e, ef, q, r⟩ := r
    subst e
    simp at h
    subst h
    exact ⟨v, f, by simp, q, fun a => by rw [ef, List.count_append]; omega⟩
  | some t :: ρ, _, _, i + 1, _, r, h => by
    obtain ⟨v, σ', f, f', e, ef, q, r⟩ := r
    subst e
    obtain ⟨w, fw, h1, h2, h3⟩ := RepE.get (i := i) r (by simpa using h)
    exact ⟨w, fw, by simpa using h1, h2, fun a => by rw [ef, List.count_append]; have := h3 a; omega⟩
/-- a slot is set: what was in it is let go -/
theorem RepE.set {t : T} {v : V} {f : List Addr} (q : RepT g Hs H t v f) : ∀ {ρ : Sl} {σ : St} {fp : List Addr} {i : Nat}, RepE g Hs H ρ σ fp → i < ρ.length →
    ∃ fp', RepE g Hs H (ρ.set i (some t)) (σ.set i (some v)) fp' ∧ ∀ a, fp'.count a ≤ fp.count a + f.count a
  | [], _, _, _, _, h => by simp at h
  | none :: ρ, _, fp, 0, r, _ => by
    obtain ⟨o, σ', e, r⟩ := r
    subst e
    exact ⟨f ++ fp, ⟨v, σ', f, fp, rfl, rfl, q, r⟩, fun a => by rw [List.count_append]; omega⟩
  | none :: ρ, _, _, i + 1, r, h => by
    obtain ⟨o, σ', e, r⟩ := r
    subst e
    obtain ⟨fp', r', c⟩ := RepE.set (i := i) q r (by simpa using h)
    exact ⟨fp', ⟨o, _, rfl, r'⟩, c⟩
  | some t' :: ρ, _, _, 0, r, _ => by
    obtain ⟨v', σ', f0, f', e, ef, q0, r⟩ := r
    subst e
    exact ⟨f ++ f', ⟨v, σ', f, f', rfl, rfl, q, r⟩, fun a => by rw [ef, List.count_append, List.count_append]; omega⟩
  | some t' :: ρ, _, _, i + 1, r, h => by
    obtain ⟨v', σ', f0, f', e, ef, q0, r⟩ := r
    subst e
    obtain ⟨fp', r', c⟩ := RepE.set (i := i) q r (by simpa using h)
    exact ⟨f0 ++ fp', ⟨v', _, f0, fp', rfl, rfl, q0, r'⟩, fun a => by rw [ef, List.count_append, List.count_append]; have := c a; omega⟩
/-- a slot's tree is taken out -/
theorem RepE.take : ∀ {ρ : Sl} {σ : St} {fp : List Addr} {i : Nat} {t : T}, RepE g Hs H ρ σ fp → ρ[i]? = some (some t) →
    ∃ v f fp', σ[i]? = some (some v) ∧ RepT g Hs H t v f ∧ RepE g Hs H (ρ.set i none) σ fp' ∧ ∀ a, fp.count a = f.count a + fp'.count a
  | [], _, _, _, _, _, h => by simp at h
  | none :: ρ, _, _, 0, _, _, h => by simp at h
  | none :: ρ, _, _, i + 1, _, r, h => by
    obtain ⟨o, σ', e, r⟩ := r
    subst e
    obtain ⟨v, f, fp', h1, h2, h3, h4⟩ := RepE.take (i := i) r (by simpa using h)
    exact ⟨v, f, fp', by simpa using h1, h2, ⟨o, _, rfl, h3⟩, h4⟩
  | some t :: ρ, _, _, 0, _, r, h => by
    obtain ⟨v, σ', f, f', e, ef, q, r⟩ := r
    subst e
    simp at h
    subst h
    exact ⟨v, f, f', by simp, q, ⟨_, _, rfl, r⟩, fun a => by rw [ef, List.count_append]⟩
  | some t :: ρ, _, _, i + 1, _, r, h => by
    obtain ⟨v, σ', f, f', e, ef, q, r⟩ := r
    subst e
    obtain ⟨w, fw, fp', h1, h2, h3, h4⟩ := RepE.take (i := i) r (by simpa using h)
    exact ⟨w, fw, f ++ fp', by simpa using h1, h2, ⟨v, _, f, fp', rfl, rfl, q, h3⟩, fun a => by rw [ef, List.count_append, List.count_append, h4 a]; omega⟩
theorem RepE.lengths : ∀ {ρ : Sl} {σ : St} {fp : List Addr}, RepE g Hs H ρ σ fp → ρ.length = σ.length
  | [], _, _, h => by rw [h.1]; rfl
  | none :: ρ, _, _, h => by
    obtain ⟨o, σ', e, r⟩ := h
    subst e
    simp [RepE.lengths r]
  | some t :: ρ, _, _, h => by
    obtain ⟨v, σ', f, f', e, _, _, r⟩ := h
    subst e
    simp [RepE.lengths r]

theorem Ok.get (o : Ok g e ρ τ σ H Hs) {i : Nat} {t : T} (h : ρ[i]? = some (some t)) : ∃ v f, σ[i]? = some (some v) ∧ RepT g Hs H t v f := by
  obtain ⟨fs, ft, r, _⟩ := o.own
  obtain ⟨v, f, h1, h2, _⟩ := r.get h
  exact ⟨v, f, h1, h2⟩
theorem Ok.top {v : V} {t : T} (o : Ok g e ρ (([v], [t]) :: τ) σ H Hs) : ∃ f, RepT g Hs H t v f := by
  obtain ⟨fs, ft, _, r, _⟩ := o.own
  obtain ⟨f, f', _, q, _⟩ := r
  exact ⟨f, RepTs.one.mp q⟩
theorem Ok.drop {p : List V × List T} (o : Ok g e ρ (p :: τ) σ H Hs) : Ok g e ρ τ σ H Hs := by
  obtain ⟨fs, ft, r1, r2, c, n⟩ := o.own
  obtain ⟨f, f', ef, q, r⟩ := r2
  subst ef
  refine ⟨o.sub, o.sub0, o.new, o.frame, o.there, o.fix, fs, f', r1, r, fun a => ?_, fun a ha => n a (ha.elim .inl fun z => .inr (by simp [z]))⟩
  have := c a
  rw [List.count_append] at this
  omega
/-- a frozen thing more among what is at hand -/
theorem Ok.push {v : V} {d : D} (o : Ok g e ρ τ σ H Hs) (r : Rep g Hs d v) : Ok g e ρ (([v], [.fz d]) :: τ) σ H Hs := by
  obtain ⟨fs, ft, r1, r2, c, n⟩ := o.own
  exact ⟨o.sub, o.sub0, o.new, o.frame, o.there, o.fix, fs, ft, r1, ⟨[], ft, rfl, RepTs.one.mpr (by simp only [RepT]; exact ⟨r, trivial⟩), r2⟩, c, n⟩
theorem upd_keep {H : Hp} {p : Addr} {u : HO} (h : H p = none) : ∀ a, H a ≠ none → upd H p u a = H a := fun a ha => upd_ne (fun z => by subst z; exact ha h)
theorem Same_upd {H : Hp} {p : Addr} {u : HO} (h : H p = none) : Same H (upd H p u) := fun a o q => by rw [upd_ne (ne_of_none q h)]; exact q
theorem Ok.freeS (o : Ok g e ρ τ σ H Hs) {p : Addr} (h : H p = none) : Hs p = none := by
  cases q : Hs p with
  | none => rfl
  | some x =>
    have := o.sub p x q
    rw [h] at this
    cases this
theorem Ok.fresh (o : Ok g e ρ τ σ H Hs) {p : Addr} (h : H p = none) : e.H p = none := by
  cases q : e.H p with
  | none => rfl
  | some x => exact absurd h (o.there p (by rw [q]; simp))
/-- new objects come; some of them are frozen -/
theorem Ok.step (o : Ok g e ρ τ σ H Hs) (k : ∀ a, H a ≠ none → H' a = H a) (s : Same Hs Hs') (s' : Same Hs' H') (n' : ∀ a, Hs' a ≠ none → Hs a ≠ none ∨ H a = none) : Ok g e ρ τ σ H' Hs' := by
  obtain ⟨fs, ft, r1, r2, c, n⟩ := o.own
  have nn : ∀ a, a ∈ fs ∨ a ∈ ft → H' a = H a := fun a ha => k a (n a ha).2.1
  refine ⟨s', fun a u q => s a u (o.sub0 a u q), fun a h => ?_, fun a h1 h2 => by rw [k a (o.there a h2)]; exact o.frame a h1 h2, fun a h => by rw [k a (o.there a h)]; exact o.there a h, o.fix, fs, ft,
    r1.keep s fun a ha => nn a (.inl ha), r2.keep s fun a ha => nn a (.inr ha), c, fun a ha => ?_⟩
  · rcases n' a h with h | h
    · exact o.new a h
    · exact .inr (.inl (o.fresh h))
  · obtain ⟨h1, h2, h3⟩ := n a ha
    refine ⟨?_, by rw [nn a ha]; exact h2, h3⟩
    cases q : Hs' a with
    | none => rfl
    | some x =>
      rcases n' a (by rw [q]; simp) with z | z
      · exact absurd h1 z
      · exact absurd z h2
theorem Ok.grow (o : Ok g e ρ τ σ H Hs) (k : ∀ a, H a ≠ none → H' a = H a) : Ok g e ρ τ σ H' Hs :=
  o.step k (Same.refl _) (fun a u q => by rw [k a (by rw [o.sub a u q]; simp)]; exact o.sub a u q) fun _ h => .inl h
theorem Ok.growS {p : Addr} {u : HO} (o : Ok g e ρ τ σ H Hs) (h : H p = none) : Ok g e ρ τ σ (upd H p u) (upd Hs p u) :=
  o.step (upd_keep h) (Same_upd (o.freeS h)) (fun a x q => by
    by_cases z : a = p
    · subst z; rw [upd_same] at q ⊢; exact q
    · rw [upd_ne z] at q ⊢; exact o.sub a x q) fun a q => by
    by_cases z : a = p
    · subst z; exact .inr h
    · rw [upd_ne z] at q; exact .inl q
/-- the topmost thing at hand is frozen -/
theorem Ok.freeze {v : V} {t : T} (o : Ok g e ρ (([v], [t]) :: τ) σ H Hs) : ∃ Hs', Same Hs Hs' ∧ Ok g e ρ (([v], [.fz t.d]) :: τ) σ H Hs' := by
  obtain ⟨fs, ft, r1, r2, c, n⟩ := o.own
  obtain ⟨f, f', ef, q, r⟩ := r2
  subst ef
  have hf : ∀ a, a ∈ f → Hs a = none ∧ H a ≠ none ∧ (e.H a = none ∨ a ∈ e.F) := fun a ha => n a (.inr (by simp [ha]))
  have s : Same Hs (frzH Hs H f) := fun a u z => by
    unfold frzH
    by_cases h : a ∈ f
    · rw [(hf a h).1] at z; cases z
    · rw [if_neg h]; exact z
  have nin : ∀ a, a ∈ fs ∨ a ∈ f' → a ∉ f := fun a ha hb => by
    have h1 := c a
    rw [List.count_append] at h1
    have h2 := List.count_pos_iff.mpr hb
    rcases ha with ha | ha
    · have := List.count_pos_iff.mpr ha; omega
    · have := List.count_pos_iff.mpr ha; omega
  refine ⟨frzH Hs H f, s, fun a u z => ?_, fun a u z => s a u (o.sub0 a u z), fun a h => ?_, o.frame, o.there, o.fix, fs, f', r1.keep s fun _ _ => rfl, ⟨[], f', rfl, ?_, r.keep s fun _ _ => rfl⟩, fun a => ?_, fun a ha => ?_⟩
  · unfold frzH at z
    by_cases h : a ∈ f
    · rw [if_pos h] at z; exact z
    · rw [if_neg h] at z; exact o.sub a u z
  · unfold frzH at h
    by_cases h' : a ∈ f
    · exact .inr (hf a h').2.2
    · rw [if_neg h'] at h; exact o.new a h
  · refine RepTs.one.mpr ?_
    simp only [RepT]
    exact ⟨(RepTs.one.mp q).toD s fun a ha => by unfold frzH; rw [if_pos ha], trivial⟩
  · have := c a
    rw [List.count_append] at this
    omega
  · obtain ⟨h1, h2, h3⟩ := n a (ha.elim .inl fun z => .inr (by simp [z]))
    exact ⟨by unfold frzH; rw [if_neg (nin a ha)]; exact h1, h2, h3⟩
/-- the topmost thing at hand goes into a slot -/
theorem Ok.store {v : V} {t : T} {i : Nat} (o : Ok g e ρ (([v], [t]) :: τ) σ H Hs) (hi : i < ρ.length) (hp : ∀ p ∈ e.P, p.1 ≠ i) : Ok g e (ρ.set i (some t)) τ (σ.set i (some v)) H Hs := by
  obtain ⟨fs, ft, r1, r2, c, n⟩ := o.own
  obtain ⟨f, f', ef, q, r⟩ := r2
  subst ef
  obtain ⟨fs', r1', c'⟩ := r1.set (i := i) (RepTs.one.mp q) hi
  have cc : ∀ a, fs'.count a + f'.count a ≤ 1 := fun a => by
    have h1 := c a
    have h2 := c' a
    rw [List.count_append] at h1
    omega
  refine ⟨o.sub, o.sub0, o.new, o.frame, o.there, fun p hp' => by rw [List.getElem?_set_ne (Ne.symm (hp p hp'))]; exact o.fix p hp', fs', f', r1', r, cc, fun a ha => n a ?_⟩
  rcases ha with ha | ha
  · have h1 := List.count_pos_iff.mpr ha
    have h2 := c' a
    by_cases h3 : 0 < fs.count a
    · exact .inl (List.count_pos_iff.mp h3)
    · exact .inr (by simp [List.count_pos_iff.mp (show 0 < f.count a by omega)])
  · exact .inr (by simp [ha])
/-- a slot's tree comes to hand -/
theorem Ok.take {i : Nat} {t : T} (o : Ok g e ρ τ σ H Hs) (h : ρ[i]? = some (some t)) : ∃ v, σ[i]? = some (some v) ∧ Ok g e (ρ.set i none) (([v], [t]) :: τ) σ H Hs := by
  obtain ⟨fs, ft, r1, r2, c, n⟩ := o.own
  obtain ⟨v, f, fs', h1, h2, h3, h4⟩ := r1.take h
  refine ⟨v, h1, o.sub, o.sub0, o.new, o.frame, o.there, o.fix, fs', f ++ ft, h3, ⟨f, ft, rfl, RepTs.one.mpr h2, r2⟩, fun a => ?_, fun a ha => n a ?_⟩
  · have := c a
    have := h4 a
    rw [List.count_append]
    omega
  · rcases ha with ha | ha
    · have := List.count_pos_iff.mpr ha
      have := h4 a
      exact .inl (List.count_pos_iff.mp (by omega))
    · rcases List.mem_append.mp ha with ha | ha
      · have := List.count_pos_iff.mpr ha
        have := h4 a
        exact .inl (List.count_pos_iff.mp (by omega))
      · exact .inr ha
/-- .. and back again -/
theorem Ok.back {i : Nat} {v : V} {t : T} (o : Ok g e ρ (([v], [t]) :: τ) σ H Hs) (hi : σ[i]? = some (some v)) : Ok g e (ρ.set i (some t)) τ σ H Hs := by
  obtain ⟨fs, ft, r1, r2, c, n⟩ := o.own
  obtain ⟨f, f', ef, q, r⟩ := r2
  subst ef
  have hl : i < ρ.length := by
    rw [r1.lengths]
    exact (List.getElem?_eq_some_iff.mp hi).1
  obtain ⟨fs', r1', c'⟩ := r1.set (i := i) (RepTs.one.mp q) hl
  have es : σ.set i (some v) = σ := by
    obtain ⟨h1, h2⟩ := List.getElem?_eq_some_iff.mp hi
    rw [← h2]
    exact List.set_getElem_self h1
  rw [es] at r1'
  have cc : ∀ a, fs'.count a + f'.count a ≤ 1 := fun a => by
    have h1 := c a
    have h2 := c' a
    rw [List.count_append] at h1
    omega
  refine ⟨o.sub, o.sub0, o.new, o.frame, o.there, o.fix, fs', f', r1', r, cc, fun a ha => n a ?_⟩
  rcases ha with ha | ha
  · have h1 := List.count_pos_iff.mpr ha
    have h2 := c' a
    by_cases h3 : 0 < fs.count a
    · exact .inl (List.count_pos_iff.mp h3)
    · exact .inr (by simp [List.count_pos_iff.mp (show 0 < f.count a by omega)])
  · exact .inr (by simp [ha])
/-- two things at hand exchanged -/
theorem Ok.swap {p q : List V × List T} (o : Ok g e ρ (p :: q :: τ) σ H Hs) : Ok g e ρ (q :: p :: τ) σ H Hs := by
  obtain ⟨fs, ft, r1, r2, c, n⟩ := o.own
  obtain ⟨f, f', ef, z, f2, f3, ef', z', r⟩ := r2
  subst ef
  subst ef'
  refine ⟨o.sub, o.sub0, o.new, o.frame, o.there, o.fix, fs, f2 ++ (f ++ f3), r1, ⟨f2, _, rfl, z', f, f3, rfl, z, r⟩, fun a => ?_, fun a ha => n a ?_⟩
  · have := c a
    simp only [List.count_append] at this ⊢
    omega
  · simp only [List.mem_append] at ha ⊢
    rcases ha with ha | ha | ha | ha
    · exact .inl ha
    · exact .inr (.inr (.inl ha))
    · exact .inr (.inl ha)
    · exact .inr (.inr (.inr ha))
theorem RepTs.append : ∀ {ts : List T} {vs : List V} {f : List Addr} {us : List T} {ws : List V} {f' : List Addr}, RepTs g Hs H ts vs f → RepTs g Hs H us ws f' → RepTs g Hs H (ts ++ us) (vs ++ ws) (f ++ f')
  | [], _, _, _, _, _, h, q => by
    simp only [RepTs] at h
    obtain ⟨rfl, rfl⟩ := h
    exact q
  | t :: ts, _, _, _, _, _, h, q => by
    simp only [RepTs] at h
    obtain ⟨v, vs', f, f', e, ef, z, r⟩ := h
    subst e
    subst ef
    simp only [List.cons_append, RepTs]
    exact ⟨v, _, f, _, rfl, by rw [List.append_assoc], z, RepTs.append r q⟩
/-- two groups joined: the later one behind the earlier one -/
theorem Ok.merge {vs ws : List V} {ts us : List T} (o : Ok g e ρ ((ws, us) :: (vs, ts) :: τ) σ H Hs) : Ok g e ρ ((vs ++ ws, ts ++ us) :: τ) σ H Hs := by
  obtain ⟨fs, ft, r1, r2, c, n⟩ := o.own
  obtain ⟨f, f', ef, z, f2, f3, ef', z', r⟩ := r2
  subst ef
  subst ef'
  refine ⟨o.sub, o.sub0, o.new, o.frame, o.there, o.fix, fs, (f2 ++ f) ++ f3, r1, ⟨f2 ++ f, _, rfl, RepTs.append z' z, r⟩, fun a => ?_, fun a ha => n a ?_⟩
  · have := c a
    simp only [List.count_append] at this ⊢
    omega
  · simp only [List.mem_append] at ha ⊢
    rcases ha with ha | (ha | ha) | ha
    · exact .inl ha
    · exact .inr (.inr (.inl ha))
    · exact .inr (.inl ha)
    · exact .inr (.inr (.inr ha))
theorem Ok.nilG (o : Ok g e ρ τ σ H Hs) : Ok g e ρ (([], []) :: τ) σ H Hs := by
  obtain ⟨fs, ft, r1, r2, c, n⟩ := o.own
  exact ⟨o.sub, o.sub0, o.new, o.frame, o.there, o.fix, fs, ft, r1, ⟨[], ft, rfl, by simp only [RepTs]; trivial, r2⟩, c, n⟩
/-- a group becomes one new owned thing at p (and its companions ps) -/
theorem Ok.pack {vs : List V} {ts : List T} {v : V} {t : T} {ps : List Addr} (o : Ok g e ρ ((vs, ts) :: τ) σ H Hs) (k : ∀ a, H a ≠ none → H' a = H a) (hn : ∀ a ∈ ps, H a = none) (hp : ∀ a ∈ ps, H' a ≠ none) (nd : ps.Nodup)
    (s : Same Hs Hs') (s' : Same Hs' H') (n' : ∀ a, Hs' a ≠ none → Hs a ≠ none ∨ H a = none) (hps : ∀ a ∈ ps, Hs' a = none)
    (mk : ∀ f, RepTs g Hs' H' ts vs f → RepT g Hs' H' t v (ps ++ f)) : Ok g e ρ (([v], [t]) :: τ) σ H' Hs' := by
  have o' := o.step k s s' n'
  obtain ⟨fs0, ft0, r10, r20, c0, n0⟩ := o.own
  obtain ⟨f0, f0', ef0, q0, rr0⟩ := r20
  subst ef0
  have nn : ∀ a, a ∈ fs0 ∨ a ∈ f0 ++ f0' → H' a = H a := fun a ha => k a (n0 a ha).2.1
  have q1 : RepTs g Hs' H' ts vs f0 := RepTs.keep s (fun a ha => nn a (.inr (by simp [ha]))) q0
  refine ⟨o'.sub, o'.sub0, o'.new, o'.frame, o'.there, o'.fix, fs0, (ps ++ f0) ++ f0', r10.keep s fun a ha => nn a (.inl ha), ⟨ps ++ f0, f0', rfl, RepTs.one.mpr (mk f0 q1), rr0.keep s fun a ha => nn a (.inr (by simp [ha]))⟩, fun a => ?_, fun a ha => ?_⟩
  · have h1 := c0 a
    simp only [List.count_append] at h1 ⊢
    by_cases hm : a ∈ ps
    · have z : fs0.count a = 0 := List.count_eq_zero.mpr fun y => (n0 a (.inl y)).2.1 (hn a hm)
      have z1 : f0.count a = 0 := List.count_eq_zero.mpr fun y => (n0 a (.inr (by simp [y]))).2.1 (hn a hm)
      have z2 : f0'.count a = 0 := List.count_eq_zero.mpr fun y => (n0 a (.inr (by simp [y]))).2.1 (hn a hm)
      have := List.nodup_iff_count.mp nd a
      omega
    · have : ps.count a = 0 := List.count_eq_zero.mpr hm
      omega
  · by_cases hm : a ∈ ps
    · exact ⟨hps a hm, hp a hm, .inl (o.fresh (hn a hm))⟩
    · have ha' : a ∈ fs0 ∨ a ∈ f0 ++ f0' := by
        simp only [List.mem_append] at ha ⊢
        rcases ha with ha | (ha | ha) | ha
        · exact .inl ha
        · exact absurd ha hm
        · exact .inr (.inl ha)
        · exact .inr (.inr ha)
      obtain ⟨h1, h2, h3⟩ := n0 a ha'
      refine ⟨?_, by rw [nn a ha']; exact h2, h3⟩
      cases q : Hs' a with
      | none => rfl
      | some x =>
        rcases n' a (by rw [q]; simp) with z | z
        · exact absurd h1 z
        · exact absurd z h2
end
end DL
namespace DL
open PySem PySem.Spec L2

/-! ### operators on data -/
mutual
def D.py : D → PyData
  | .non => .none | .bl b => .bool b | .int i => .int i | .str s => .str s
  | .tup xs => .tuple (D.pys xs) | .lst xs => .list (D.pys xs)
  | .dic _ _ => .dict [] | .obj _ _ _ => .dict [] | .scr _ => .dict []
def D.pys : List D → List PyData
  | [] => []
  | d :: ds => d.py :: D.pys ds
end
theorem D.pys_map : ∀ ds : List D, D.pys ds = ds.map D.py
  | [] => rfl
  | d :: ds => by rw [D.pys, List.map_cons, D.pys_map ds]
/-- data that can be compared -/
def D.cmp (d : D) : Bool := SeqAt.shaped d.py
theorem strOk_of {x : PyData} (h : SeqAt.shaped x = true) : True := trivial
mutual
theorem Rep.dp {g : Gx} {H : Hp} : ∀ {d : D} {v : V}, Rep g H d v → d.py.canLay0 = true → Dp g.K H v d.py
  | .non, _, h, _ => by simp only [Rep] at h; subst h; exact .non
  | .bl b, _, h, _ => by simp only [Rep] at h; subst h; exact .bl b
  | .int b, _, h, _ => by simp only [Rep] at h; subst h; exact .int b
  | .str b, _, h, _ => by simp only [Rep] at h; subst h; exact .str b
  | .tup ds, _, h, c => by
    simp only [Rep] at h
    obtain ⟨a, vs, rfl, q, r⟩ := h
    simp only [D.py, PyData.canLay0] at c ⊢
    exact .tup q (Reps.dp r c)
  | .lst ds, _, h, c => by
    simp only [Rep] at h
    obtain ⟨a, vs, rfl, q, r⟩ := h
    simp only [D.py, PyData.canLay0] at c ⊢
    exact .lst (.inl q) (Reps.dp r c)
  | .dic _ _, _, _, c => by simp only [D.py, PyData.canLay0] at c; cases c
  | .obj _ _ _, _, _, c => by simp only [D.py, PyData.canLay0] at c; cases c
  | .scr _, _, _, c => by simp only [D.py, PyData.canLay0] at c; cases c
theorem Reps.dp {g : Gx} {H : Hp} : ∀ {ds : List D} {vs : List V}, Reps g H ds vs → PyData.canLayAll0 (D.pys ds) = true → DpAll g.K H vs (D.pys ds)
  | [], _, h, _ => by simp only [Reps] at h; subst h; exact .nil
  | d :: ds, _, h, c => by
    simp only [Reps] at h
    obtain ⟨v, vs', rfl, q, r⟩ := h
    simp only [D.pys, PyData.canLayAll0, Bool.and_eq_true] at c ⊢
    exact .cons (Rep.dp q c.1) (Reps.dp r c.2)
end
/-- an atom's value -/
def D.at : D → V
  | .bl b => .bl b | .int i => .int i | .str s => .str s | _ => .non
def D.atom : D → Bool
  | .non => true | .bl _ => true | .int _ => true | .str _ => true | _ => false
theorem Rep.at {g : Gx} {H : Hp} {d : D} (h : d.atom = true) : Rep g H d d.at := by
  cases d <;> first | (simp only [Rep]; rfl) | simp [D.atom] at h

inductive O2 where
  | add | sub | mul | fdiv | mod | pow | shl | shr | band | bor | bxor
  | lt | le | gt | ge | eq | ne | isN | isnN | isin | notin
  deriving DecidableEq
def O2.bin : O2 → Option Operator
  | .add => some .Add | .sub => some .Sub | .mul => some .Mult | .fdiv => some .FloorDiv | .mod => some .Mod | .pow => some .Pow
  | .shl => some .LShift | .shr => some .RShift | .band => some .BitAnd | .bor => some .BitOr | .bxor => some .BitXor | _ => none
def O2.cmp : O2 → Option CmpOp
  | .lt => some .Lt | .le => some .LtE | .gt => some .Gt | .ge => some .GtE | .eq => some .Eq | .ne => some .NotEq
  | .isN => some .Is | .isnN => some .IsNot | .isin => some .In | .notin => some .NotIn | _ => none
def O2.f (o : O2) : Value → Value → Sem Value :=
  match o.bin with
  | some p => binaryOp p
  | none => compareOp (o.cmp.getD .Eq)
def D.isNon : D → Bool
  | .non => true
  | _ => false
def mulB (i j : Int) : Bool := decide ((Builtin.Int.intBits i : Int) + (Builtin.Int.intBits j : Int) ≤ 134217728)
def divB (j : Int) : Bool := decide (0 < j) && decide (j.natAbs.log2 < 9000)
def powB (i j : Int) : Bool := decide (0 ≤ j) && decide ((Builtin.Int.intBits i : Int) * j ≤ 134217728)
def shlB (i j : Int) : Bool := decide (0 ≤ j) && decide ((Builtin.Int.intBits i : Int) + j ≤ 134217728)
def sgn (x : Str) : Option Nat := match x.cps.toList with
  | [c] => some c
  | _ => none
theorem sgn_eq {x : Str} {c : Nat} (h : sgn x = some c) : x = ⟨#[c]⟩ := by
  obtain ⟨a⟩ := x
  unfold sgn at h
  split at h
  · rename_i c' e
    cases h
    have : a = #[c] := by
      apply Array.toList_inj.mp
      simpa using e
    rw [this]
  · cases h
def isIn (a : D) : D → Option Bool
  | .str z => match a with
    | .str x => (sgn x).map fun c => decide (c ∈ z.cps.toList)
    | _ => none
  | .lst ds => if a.cmp = true ∧ (D.lst ds).cmp = true then some (ds.any fun z => PyData.eqv z.py a.py) else none
  | .tup ds => if a.cmp = true ∧ (D.tup ds).cmp = true then some (ds.any fun z => PyData.eqv z.py a.py) else none
  | _ => none
def rMemT (K : PySem.W.Frag) (neg : Bool) : R2 := fun x y H Q => ∃ d ds, Dp K H x d ∧ Dp K H y (.tuple ds) ∧ SeqAt.shaped d = true ∧ SeqAt.shaped (.tuple ds) = true ∧ Q (.bl (neg != ds.any fun z => PyData.eqv z d)) H
theorem op_memT {X : Cx} (hu : X.A.units + 65 < cLine) : OpR X (compareOp .In) (rMemT X.K false) := fun pins s σ H x y v u Q I rx ry h => by
  obtain ⟨d, ds, hd, he, sd, se, q⟩ := h
  obtain ⟨_, r1⟩ := Dp.reads I d x v hd rx
  obtain ⟨_, r2⟩ := Dp.reads I (.tuple ds) y u he ry
  rw [Bool.false_bne] at q
  exact SeqAt.in_tuple_reads r2 r1 (SeqAt.canLay_of_shaped se) (SeqAt.canLay_of_shaped sd) (PyProof.Rows.room_in_shaped sd hu) ⟨.bl _, H, I, rfl, q⟩
theorem op_nmemT {X : Cx} (hu : X.A.units + 65 < cLine) : OpR X (compareOp .NotIn) (rMemT X.K true) := fun pins s σ H x y v u Q I rx ry h => by
  obtain ⟨d, ds, hd, he, sd, se, q⟩ := h
  obtain ⟨_, r1⟩ := Dp.reads I d x v hd rx
  obtain ⟨_, r2⟩ := Dp.reads I (.tuple ds) y u he ry
  rw [Bool.true_bne] at q
  exact SeqAt.notIn_tuple_reads r2 r1 (SeqAt.canLay_of_shaped se) (SeqAt.canLay_of_shaped sd) (PyProof.Rows.room_in_shaped sd hu) ⟨.bl _, H, I, rfl, q⟩
def o2 : O2 → D → D → Option D
  | .add, .int i, .int j => some (.int (i + j))
  | .add, .str a, .str b => if a.length + b.length ≤ sizeLine then some (.str (a ++ b)) else none
  | .sub, .int i, .int j => some (.int (i - j))
  | .mul, .int i, .int j => if mulB i j = true then some (.int (i * j)) else none
  | .fdiv, .int i, .int j => if divB j = true then some (.int (i / j)) else none
  | .mod, .int i, .int j => if 0 < j then some (.int (i % j)) else none
  | .pow, .int i, .int j => if powB i j = true then some (.int (i ^ j.toNat)) else none
  | .shl, .int i, .int j => if shlB i j = true then some (.int (i * 2 ^ j.toNat)) else none
  | .shr, .int i, .int j => if 0 ≤ j then some (.int (i / 2 ^ j.toNat)) else none
  | .band, .int i, .int j => some (.int (Builtin.bitAnd i j))
  | .bor, .int i, .int j => some (.int (Builtin.bitOr i j))
  | .bxor, .int i, .int j => some (.int (Builtin.bitXor i j))
  | .lt, .int i, .int j => some (.bl (decide (i < j)))
  | .le, .int i, .int j => some (.bl (decide (i ≤ j)))
  | .gt, .int i, .int j => some (.bl (decide (j < i)))
  | .ge, .int i, .int j => some (.bl (decide (j ≤ i)))
  | .eq, a, b => if a.cmp = true ∧ b.cmp = true then some (.bl (PyData.eqv a.py b.py)) else none
  | .ne, a, b => if a.cmp = true ∧ b.cmp = true then some (.bl (!PyData.eqv a.py b.py)) else none
  | .isN, a, .non => some (.bl a.isNon)
  | .isnN, a, .non => some (.bl (!a.isNon))
  | .isin, a, b => (isIn a b).map D.bl
  | .notin, a, b => (isIn a b).map fun k => D.bl (!k)
  | _, _, _ => none

theorem D.cmpE {d : D} (h : d.cmp = true) : d.py.canLay0 = true := SeqAt.canLay_of_shaped h
theorem isNon_eq {g : Gx} {H : Hp} {d : D} {v : V} (h : Rep g H d v) : decide (v = .non) = d.isNon := by
  cases d <;> simp only [Rep, D.isNon] at h ⊢
  · simp [h]
  · simp [h]
  · simp [h]
  · simp [h]
  · obtain ⟨a, vs, rfl, _⟩ := h; simp
  · obtain ⟨a, vs, rfl, _⟩ := h; simp
  · obtain ⟨a, vs, rfl, _⟩ := h; simp
  · obtain ⟨a, dx, vs, rfl, _⟩ := h; simp
  · obtain ⟨a, rfl, _⟩ := h; simp
theorem op_powB {X : Cx} : OpR X (binaryOp .Pow) (rI (fun i j => 0 ≤ j ∧ (Builtin.Int.intBits i : Int) * j ≤ 2 ^ 27) fun i j => .int (i ^ j.toNat)) := opI fun _ _ _ _ _ _ _ hc q => PyProof.Rows.pow_int hc.1 hc.2 q
theorem any_pys {ds : List D} {p : PyData} : ((D.pys ds).any fun z => PyData.eqv z p) = ds.any fun z => PyData.eqv z.py p := by
  rw [D.pys_map, List.any_map]
  rfl

/-- what a rule of two values is good for -/
def OpD (X : Cx) (g : Gx) (o : O2) : Prop := ∃ r : R2, OpR X o.f r ∧ ∀ H a b va vb d, Rep g H a va → Rep g H b vb → o2 o a b = some d → d.atom = true ∧ ∀ Q : VK, Q d.at H → r va vb H Q
theorem opD {X : Cx} {g : Gx} (hk : g.K = X.K) (hu : X.A.units + 65 < cLine) : ∀ o : O2, OpD X g o := by
  have hu' : X.A.units + 64 < cLine := by omega
  intro o
  cases o
  case add =>
    refine ⟨_, op_add.or op_add_str, fun H a b va vb d ra rb h => ?_⟩
    cases a <;> cases b <;> simp only [o2] at h <;> try cases h
    · simp only [Rep] at ra rb; subst ra; subst rb
      exact ⟨rfl, fun Q q => .inl ⟨_, _, rfl, rfl, q⟩⟩
    · split at h
      · rename_i hz
        cases h
        simp only [Rep] at ra rb; subst ra; subst rb
        exact ⟨rfl, fun Q q => .inr ⟨_, _, rfl, rfl, hz, q⟩⟩
      · cases h
  case sub =>
    refine ⟨_, op_sub, fun H a b va vb d ra rb h => ?_⟩
    cases a <;> cases b <;> simp only [o2] at h <;> try cases h
    simp only [Rep] at ra rb; subst ra; subst rb
    exact ⟨rfl, fun Q q => ⟨_, _, rfl, rfl, q⟩⟩
  case mul =>
    refine ⟨_, op_mulX, fun H a b va vb d ra rb h => ?_⟩
    cases a <;> cases b <;> simp only [o2] at h <;> try cases h
    split at h
    · rename_i hz
      cases h
      simp only [Rep] at ra rb; subst ra; subst rb
      exact ⟨rfl, fun Q q => ⟨_, _, rfl, rfl, (show CMulX _ _ from by unfold CMulX; exact of_decide_eq_true hz), q⟩⟩
    · cases h
  case fdiv =>
    refine ⟨_, op_fdivW, fun H a b va vb d ra rb h => ?_⟩
    cases a <;> cases b <;> simp only [o2] at h <;> try cases h
    split at h
    · rename_i hz
      cases h
      simp only [Rep] at ra rb; subst ra; subst rb
      simp only [divB, Bool.and_eq_true, decide_eq_true_eq] at hz
      exact ⟨rfl, fun Q q => ⟨_, _, rfl, rfl, hz, q⟩⟩
    · cases h
  case mod =>
    refine ⟨_, op_mod, fun H a b va vb d ra rb h => ?_⟩
    cases a <;> cases b <;> simp only [o2] at h <;> try cases h
    split at h
    · rename_i hz
      cases h
      simp only [Rep] at ra rb; subst ra; subst rb
      exact ⟨rfl, fun Q q => ⟨_, _, rfl, rfl, hz, q⟩⟩
    · cases h
  case pow =>
    refine ⟨_, op_powB, fun H a b va vb d ra rb h => ?_⟩
    cases a <;> cases b <;> simp only [o2] at h <;> try cases h
    split at h
    · rename_i hz
      cases h
      simp only [Rep] at ra rb; subst ra; subst rb
      simp only [powB, Bool.and_eq_true, decide_eq_true_eq] at hz
      exact ⟨rfl, fun Q q => ⟨_, _, rfl, rfl, hz, q⟩⟩
    · cases h
  case shl =>
    refine ⟨_, op_shlW, fun H a b va vb d ra rb h => ?_⟩
    cases a <;> cases b <;> simp only [o2] at h <;> try cases h
    split at h
    · rename_i hz
      cases h
      simp only [Rep] at ra rb; subst ra; subst rb
      simp only [shlB, Bool.and_eq_true, decide_eq_true_eq] at hz
      exact ⟨rfl, fun Q q => ⟨_, _, rfl, rfl, hz, q⟩⟩
    · cases h
  case shr =>
    refine ⟨_, op_shr, fun H a b va vb d ra rb h => ?_⟩
    cases a <;> cases b <;> simp only [o2] at h <;> try cases h
    split at h
    · rename_i hz
      cases h
      simp only [Rep] at ra rb; subst ra; subst rb
      exact ⟨rfl, fun Q q => ⟨_, _, rfl, rfl, hz, q⟩⟩
    · cases h
  case band =>
    refine ⟨_, op_and, fun H a b va vb d ra rb h => ?_⟩
    cases a <;> cases b <;> simp only [o2] at h <;> try cases h
    simp only [Rep] at ra rb; subst ra; subst rb
    exact ⟨rfl, fun Q q => ⟨_, _, rfl, rfl, q⟩⟩
  case bor =>
    refine ⟨_, op_or, fun H a b va vb d ra rb h => ?_⟩
    cases a <;> cases b <;> simp only [o2] at h <;> try cases h
    simp only [Rep] at ra rb; subst ra; subst rb
    exact ⟨rfl, fun Q q => ⟨_, _, rfl, rfl, q⟩⟩
  case bxor =>
    refine ⟨_, op_xor, fun H a b va vb d ra rb h => ?_⟩
    cases a <;> cases b <;> simp only [o2] at h <;> try cases h
    simp only [Rep] at ra rb; subst ra; subst rb
    exact ⟨rfl, fun Q q => ⟨_, _, rfl, rfl, q⟩⟩
  case lt =>
    refine ⟨_, op_lt, fun H a b va vb d ra rb h => ?_⟩
    cases a <;> cases b <;> simp only [o2] at h <;> try cases h
    simp only [Rep] at ra rb; subst ra; subst rb
    exact ⟨rfl, fun Q q => ⟨_, _, rfl, rfl, q⟩⟩
  case le =>
    refine ⟨_, op_le, fun H a b va vb d ra rb h => ?_⟩
    cases a <;> cases b <;> simp only [o2] at h <;> try cases h
    simp only [Rep] at ra rb; subst ra; subst rb
    exact ⟨rfl, fun Q q => ⟨_, _, rfl, rfl, q⟩⟩
  case gt =>
    refine ⟨_, op_gt, fun H a b va vb d ra rb h => ?_⟩
    cases a <;> cases b <;> simp only [o2] at h <;> try cases h
    simp only [Rep] at ra rb; subst ra; subst rb
    exact ⟨rfl, fun Q q => ⟨_, _, rfl, rfl, q⟩⟩
  case ge =>
    refine ⟨_, op_ge, fun H a b va vb d ra rb h => ?_⟩
    cases a <;> cases b <;> simp only [o2] at h <;> try cases h
    simp only [Rep] at ra rb; subst ra; subst rb
    exact ⟨rfl, fun Q q => ⟨_, _, rfl, rfl, q⟩⟩
  case eq =>
    refine ⟨_, op_eqD hu', fun H a b va vb d ra rb h => ?_⟩
    simp only [o2] at h
    split at h
    · rename_i hz
      cases h
      exact ⟨rfl, fun Q q => ⟨_, _, hk ▸ ra.dp (D.cmpE hz.1), hk ▸ rb.dp (D.cmpE hz.2), hz.1, hz.2, q⟩⟩
    · cases h
  case ne =>
    refine ⟨_, op_neD hu', fun H a b va vb d ra rb h => ?_⟩
    simp only [o2] at h
    split at h
    · rename_i hz
      cases h
      exact ⟨rfl, fun Q q => ⟨_, _, hk ▸ ra.dp (D.cmpE hz.1), hk ▸ rb.dp (D.cmpE hz.2), hz.1, hz.2, q⟩⟩
    · cases h
  case isN =>
    refine ⟨_, op_isN, fun H a b va vb d ra rb h => ?_⟩
    cases b <;> simp only [o2] at h <;> try cases h
    simp only [Rep] at rb; subst rb
    refine ⟨rfl, fun Q q => ⟨rfl, ?_⟩⟩
    rw [isNon_eq ra]
    exact q
  case isnN =>
    refine ⟨_, op_notN, fun H a b va vb d ra rb h => ?_⟩
    cases b <;> simp only [o2] at h <;> try cases h
    simp only [Rep] at rb; subst rb
    refine ⟨rfl, fun Q q => ⟨rfl, ?_⟩⟩
    rw [isNon_eq ra]
    exact q
  case isin =>
    refine ⟨_, op_in_sign.or ((op_inD hu).or (op_memT hu)), fun H a b va vb d ra rb h => ?_⟩
    simp only [o2, Option.map_eq_some_iff] at h
    obtain ⟨k, h, rfl⟩ := h
    refine ⟨rfl, fun Q q => ?_⟩
    cases b <;> simp only [isIn] at h <;> try cases h
    · cases a <;> simp only at h <;> try cases h
      simp only [Option.map_eq_some_iff] at h
      obtain ⟨c, hc, rfl⟩ := h
      simp only [Rep] at ra rb; subst ra; subst rb
      rw [sgn_eq hc]
      exact .inl ⟨_, _, rfl, rfl, q⟩
    · split at h
      · rename_i hz
        cases h
        have rb' := hk ▸ rb.dp (D.cmpE hz.2)
        rw [← any_pys] at q
        exact .inr (.inr ⟨_, _, hk ▸ ra.dp (D.cmpE hz.1), rb', hz.1, hz.2, by rw [Bool.false_bne]; exact q⟩)
      · cases h
    · split at h
      · rename_i hz
        cases h
        have rb' := hk ▸ rb.dp (D.cmpE hz.2)
        rw [← any_pys] at q
        exact .inr (.inl ⟨_, _, hk ▸ ra.dp (D.cmpE hz.1), rb', hz.1, hz.2, q⟩)
      · cases h
  case notin =>
    refine ⟨_, op_notIn_sign.or ((op_notInD hu).or (op_nmemT hu)), fun H a b va vb d ra rb h => ?_⟩
    simp only [o2, Option.map_eq_some_iff] at h
    obtain ⟨k, h, rfl⟩ := h
    refine ⟨rfl, fun Q q => ?_⟩
    cases b <;> simp only [isIn] at h <;> try cases h
    · cases a <;> simp only at h <;> try cases h
      simp only [Option.map_eq_some_iff] at h
      obtain ⟨c, hc, rfl⟩ := h
      simp only [Rep] at ra rb; subst ra; subst rb
      rw [sgn_eq hc]
      exact .inl ⟨_, _, rfl, rfl, q⟩
    · split at h
      · rename_i hz
        cases h
        have rb' := hk ▸ rb.dp (D.cmpE hz.2)
        rw [← any_pys] at q
        exact .inr (.inr ⟨_, _, hk ▸ ra.dp (D.cmpE hz.1), rb', hz.1, hz.2, by rw [Bool.true_bne]; exact q⟩)
      · cases h
    · split at h
      · rename_i hz
        cases h
        have rb' := hk ▸ rb.dp (D.cmpE hz.2)
        rw [← any_pys] at q
        exact .inr (.inl ⟨_, _, hk ▸ ra.dp (D.cmpE hz.1), rb', hz.1, hz.2, q⟩)
      · cases h
end DL
namespace DL
open PySem PySem.Spec L2

/-! ### expressions that make nothing: their result stands as it is -/
inductive B1 where
  | len | int | abs
  deriving DecidableEq
inductive B2 where
  | min | max
  deriving DecidableEq
inductive Ty where
  | int | bool | list | tuple | str | dict | cls (c : Nat)
  deriving DecidableEq
inductive P where
  | lit (d : D) | sl (i : Nat) | gl (x : Str) (d : D)
  | op (o : O2) (a b : P) | ch (o1 o2 : O2) (a b c : P) | neg (a : P) | not (a : P)
  | and (a b : P) | or (a b : P) | ife (c a b : P)
  | ix (a i : P) | b1 (b : B1) (a : P) | b2 (b : B2) (a c : P) | isi (a : P) (t : Ty)
  deriving Inhabited

def D.tru : D → Option Bool
  | .non => some false | .bl b => some b | .int i => some (i != 0)
  | .str s => if s.length ≤ sizeLine then some ((s.length : Int) != 0) else none
  | .tup xs => some (!xs.isEmpty) | .lst xs => some (!xs.isEmpty) | .dic ks _ => some (!ks.isEmpty)
  | .obj _ _ _ => none | .scr _ => none
def keyOf : D → Option Key
  | .int i => some (.inl i)
  | .str s => some (.inr s)
  | _ => none
def lookD {α : Type} : List Key → List α → Key → Option α
  | k :: ks, d :: ds, k' => if k = k' then some d else lookD ks ds k'
  | _, _, _ => none
/-- a thing's part: frozen of a frozen one -/
def ixT : T → D → Option T
  | .fz (.lst ds), .int i => (atI ds i).map T.fz
  | .fz (.tup ds), .int i => (atI ds i).map T.fz
  | .fz (.scr ns), .int i => (atI ns i).map fun n => T.fz (.int n)
  | .fz (.str z), .int i => if z.length ≤ sizeLine then (atI z.cps.toList i).map fun c => T.fz (.str ⟨#[c]⟩) else none
  | .fz (.dic ks ds), d => (keyOf d).bind fun k => (lookD ks ds k).map T.fz
  | .lst ts, .int i => atI ts i
  | .tup ts, .int i => atI ts i
  | .dic ks ts, d => (keyOf d).bind fun k => lookD ks ts k
  | _, _ => none
def b1D : B1 → D → Option D
  | .len, .str s => if s.length ≤ sizeLine then some (.int s.length) else none
  | .len, .lst xs => some (.int xs.length)
  | .len, .tup xs => some (.int xs.length)
  | .len, .dic ks _ => some (.int ks.length)
  | .len, .scr ns => some (.int ns.length)
  | .int, .int i => some (.int i)
  | .int, .bl b => some (.int (if b then 1 else 0))
  | .abs, .int i => some (.int (if i < 0 then -i else i))
  | _, _ => none
def b2D : B2 → D → D → Option D
  | .min, .int i, .int j => some (.int (if j < i then j else i))
  | .max, .int i, .int j => some (.int (if j > i then j else i))
  | _, _, _ => none
def Ty.nm : Ty → Str
  | .int => "int" | .bool => "bool" | .list => "list" | .tuple => "tuple" | .str => "str" | .dict => "dict" | .cls _ => ""
def isiD : Ty → D → Option Bool
  | .int, .int _ => some true | .int, .bl _ => some true
  | .bool, .bl _ => some true | .list, .lst _ => some true | .tuple, .tup _ => some true | .str, .str _ => some true | .dict, .dic _ _ => some true
  | .int, .non => some false | .int, .str _ => some false | .int, .lst _ => some false | .int, .tup _ => some false
  | .bool, .non => some false | .bool, .int _ => some false | .bool, .str _ => some false | .bool, .lst _ => some false | .bool, .tup _ => some false
  | .list, .non => some false | .list, .bl _ => some false | .list, .int _ => some false | .list, .str _ => some false | .list, .tup _ => some false
  | .tuple, .non => some false | .tuple, .bl _ => some false | .tuple, .int _ => some false | .tuple, .str _ => some false | .tuple, .lst _ => some false
  | .str, .non => some false | .str, .bl _ => some false | .str, .int _ => some false | .str, .lst _ => some false | .str, .tup _ => some false
  | .dict, .non => some false | .dict, .bl _ => some false | .dict, .int _ => some false | .dict, .str _ => some false | .dict, .lst _ => some false | .dict, .tup _ => some false
  | _, _ => none

def evP : P → Sl → Option T
  | .lit d, _ => some (.fz d)
  | .sl i, ρ => (ρ[i]?).bind id
  | .gl _ d, _ => some (.fz d)
  | .op o a b, ρ => (evP a ρ).bind fun x => (evP b ρ).bind fun y => (o2 o x.d y.d).map T.fz
  | .ch o1 o2' a b c, ρ => (evP a ρ).bind fun x => (evP b ρ).bind fun y => match o2 o1 x.d y.d with
    | some (.bl true) => (evP c ρ).bind fun z => (o2 o2' y.d z.d).map T.fz
    | some (.bl false) => some (.fz (.bl false))
    | _ => none
  | .neg a, ρ => match evP a ρ with
    | some (.fz (.int i)) => some (.fz (.int (-i)))
    | _ => none
  | .not a, ρ => (evP a ρ).bind fun x => x.d.tru.map fun k => .fz (.bl (!k))
  | .and a b, ρ => (evP a ρ).bind fun x => match x.d.tru with
    | some true => evP b ρ
    | some false => some x
    | none => none
  | .or a b, ρ => (evP a ρ).bind fun x => match x.d.tru with
    | some true => some x
    | some false => evP b ρ
    | none => none
  | .ife c a b, ρ => match evP c ρ with
    | none => none
    | some x => match x.d.tru with
      | some true => evP a ρ
      | some false => evP b ρ
      | none => none
  | .ix a i, ρ => (evP a ρ).bind fun x => (evP i ρ).bind fun y => ixT x y.d
  | .b1 b a, ρ => (evP a ρ).bind fun x => (b1D b x.d).map T.fz
  | .b2 b a c, ρ => (evP a ρ).bind fun x => (evP c ρ).bind fun y => (b2D b x.d y.d).map T.fz
  | .isi a t, ρ => (evP a ρ).bind fun x => (isiD t x.d).map fun k => .fz (.bl k)
/-- as a test -/
def evT : P → Sl → Option Bool
  | .not a, ρ => (evT a ρ).map fun k => !k
  | .and a b, ρ => match evT a ρ with
    | some true => evT b ρ
    | some false => some false
    | none => none
  | .or a b, ρ => match evT a ρ with
    | some true => some true
    | some false => evT b ρ
    | none => none
  | .ife c a b, ρ => match evT c ρ with
    | some true => evT a ρ
    | some false => evT b ρ
    | none => none
  | .op o a b, ρ => (evP (.op o a b) ρ).bind fun x => x.d.tru
  | .ch o1 o2 a b c, ρ => (evP (.ch o1 o2 a b c) ρ).bind fun x => x.d.tru
  | .lit d, ρ => (evP (.lit d) ρ).bind fun x => x.d.tru
  | .sl i, ρ => (evP (.sl i) ρ).bind fun x => x.d.tru
  | .gl x d, ρ => (evP (.gl x d) ρ).bind fun x => x.d.tru
  | .neg a, ρ => (evP (.neg a) ρ).bind fun x => x.d.tru
  | .ix a i, ρ => (evP (.ix a i) ρ).bind fun x => x.d.tru
  | .b1 b a, ρ => (evP (.b1 b a) ρ).bind fun x => x.d.tru
  | .b2 b a c, ρ => (evP (.b2 b a c) ρ).bind fun x => x.d.tru
  | .isi a t, ρ => (evP (.isi a t) ρ).bind fun x => x.d.tru
end DL
namespace DL
open PySem PySem.Spec L2

/-! ### values that the rules ask for -/
theorem ix_dict {X : Cx} (hu : X.A.units + 1 < cLine) : IxR X (fun x y H Q => ∃ a v, x = .ref a ∧ DGet H a y (some v) ∧ Q v H) := by
  intro value slice pins s σ H x y v u Q I rx ry h hs
  obtain ⟨a, w, rfl, g, q⟩ := h
  cases rx
  have hT := dict_typeIs I g
  unfold PyProof.Rows.subscriptTail
  refine wpAny_bind ?_
  rw [getitemInPython_of_ne hT.not_modules]
  refine wpAny_bind (wpAny_specialOf hT PySem.F.slot_dict_getitem.lookup ?_)
  have fin : wpAny (model X.prog X.w) X.A (subscripted slice false (.ref a) u) (fun r s₃ => wpAny (model X.prog X.w) X.A (letTemporaryGo value (.ref a) r >>= fun _ => pure r) (EP X pins σ Q) X.xe s₃) X.xe s := by
    rw [hs]
    exact wpAny_operating (d_getItem hu I g ry fun w' s3 I3 rw' => wpAny_bind (wpAny_letTemporaryGo (wpAny_pure ⟨w, H, I3, rw', q⟩)))
  first
    | exact wpAny_pure (wpAny_bind fin)
    | exact wpAny_bind (wpAny_pure (wpAny_bind fin))
    | exact wpAny_bind fin
theorem keyOf_kV {g : Gx} {H : Hp} {d : D} {v : V} {k : Key} (h : keyOf d = some k) (r : Rep g H d v) : v = kV k := by
  cases d <;> simp only [keyOf] at h <;> cases h <;> simp only [Rep] at r <;> exact r
theorem lookD_valV {α : Type} {k : Key} : ∀ {ks : List Key} {ds : List α} {vs : List V} {d : α} (R : α → V → Prop), lookD ks ds k = some d → (∀ (i : Nat) d, ds[i]? = some d → ∃ v, vs[i]? = some v ∧ R d v) → ks.length = vs.length → ∃ v, valV (ks.zip vs) k = some v ∧ R d v
  | [], _, _, _, _, h, _, _ => by simp [lookD] at h
  | _ :: _, [], _, _, _, h, _, _ => by simp [lookD] at h
  | k0 :: ks, d0 :: ds, [], _, _, _, _, l => by simp at l
  | k0 :: ks, d0 :: ds, v0 :: vs, d, R, h, r, l => by
    obtain ⟨v, e, q⟩ := r 0 d0 (by simp)
    simp at e
    subst e
    simp only [lookD] at h
    simp only [List.zip_cons_cons]
    by_cases z : k0 = k
    · rw [if_pos z] at h
      cases h
      exact ⟨v0, valV_pos z, q⟩
    · rw [if_neg z] at h
      rw [valV_neg z]
      exact lookD_valV R h (fun i d hd => by simpa using r (i + 1) d (by simpa using hd)) (by simpa using l)
theorem Reps.at_ {g : Gx} {H : Hp} : ∀ {ds : List D} {vs : List V}, Reps g H ds vs → ∀ (i : Nat) d, ds[i]? = some d → ∃ v, vs[i]? = some v ∧ Rep g H d v
  | [], _, _, i, _, h => by simp at h
  | d0 :: ds, _, r, i, d, h => by
    simp only [Reps] at r
    obtain ⟨v, vs', rfl, q, r⟩ := r
    cases i with
    | zero =>
      simp at h
      subst h
      exact ⟨v, by simp, q⟩
    | succ i =>
      obtain ⟨w, e, q⟩ := Reps.at_ r i d (by simpa using h)
      exact ⟨w, by simpa using e, q⟩
theorem RepTs.at_ {g : Gx} {Hs H : Hp} : ∀ {ds : List T} {vs : List V} {fp : List Addr}, RepTs g Hs H ds vs fp → ∀ (i : Nat) d, ds[i]? = some d → ∃ v, vs[i]? = some v ∧ ∃ f, RepT g Hs H d v f ∧ ∀ a ∈ f, a ∈ fp
  | [], _, _, _, i, _, h => by simp at h
  | d0 :: ds, _, _, r, i, d, h => by
    simp only [RepTs] at r
    obtain ⟨v, vs', f, f', rfl, ef, q, r⟩ := r
    cases i with
    | zero =>
      simp at h
      subst h
      exact ⟨v, by simp, f, q, fun a ha => by rw [ef]; simp [ha]⟩
    | succ i =>
      obtain ⟨w, e, f2, q, hs⟩ := RepTs.at_ r i d (by simpa using h)
      exact ⟨w, by simpa using e, f2, q, fun a ha => by rw [ef]; simp [hs a ha]⟩
theorem atI_rel {α : Type} {ds : List α} {vs : List V} {i : Int} {d : α} {R : α → V → Prop} (h : atI ds i = some d) (l : vs.length = ds.length) (r : ∀ (i : Nat) d, ds[i]? = some d → ∃ v, vs[i]? = some v ∧ R d v) : ∃ v, atI vs i = some v ∧ R d v := by
  unfold atI at h ⊢
  rw [l]
  cases e : ixN ds.length i with
  | none => rw [e] at h; cases h
  | some j =>
    rw [e] at h
    simp only [Option.bind_some] at h ⊢
    exact r j d h

theorem RepT_int {g : Gx} {Hs H : Hp} {n : Int} : RepT g Hs H (.fz (.int n)) (.int n) [] := by
  simp only [RepT, Rep]
  exact ⟨trivial, trivial⟩
/-- a subscript -/
theorem ixD {X : Cx} {g : Gx} (hk : g.K = X.K) (hu : X.A.units + 65 < cLine) : ∃ r : R2, IxR X r ∧ ∀ Hs H t d w va vb fp, Same Hs H → RepT g Hs H t va fp → Rep g H d vb → ixT t d = some w → ∀ Q : VK, (∀ v fp', RepT g Hs H w v fp' → (∀ a ∈ fp', a ∈ fp) → Q v H) → r va vb H Q := by
  refine ⟨_, ix_seq.or (ix_dict (by omega)), fun Hs H t d w va vb fp sm ra rb h Q q => ?_⟩
  unfold ixT at h
  split at h
  · rename_i ds i
    simp only [Rep] at rb
    subst rb
    simp only [Option.map_eq_some_iff] at h
    obtain ⟨d', h, rfl⟩ := h
    simp only [RepT, Rep] at ra
    obtain ⟨⟨a, vs, rfl, sq, rs⟩, rfl⟩ := ra
    obtain ⟨v, e, rv⟩ := atI_rel (R := fun d v => Rep g Hs d v) h rs.length rs.at_
    exact .inl (.inl ⟨a, vs, i, v, rfl, rfl, hk ▸ Same.sqL sm (.inl sq), e, q v [] (by simp only [RepT]; exact ⟨rv, trivial⟩) (fun _ z => nomatch z)⟩)
  · rename_i ds i
    simp only [Rep] at rb
    subst rb
    simp only [Option.map_eq_some_iff] at h
    obtain ⟨d', h, rfl⟩ := h
    simp only [RepT, Rep] at ra
    obtain ⟨⟨a, vs, rfl, sq, rs⟩, rfl⟩ := ra
    obtain ⟨v, e, rv⟩ := atI_rel (R := fun d v => Rep g Hs d v) h rs.length rs.at_
    exact .inl (.inr (.inl ⟨a, vs, i, v, rfl, rfl, hk ▸ Same.sqT sm sq, e, q v [] (by simp only [RepT]; exact ⟨rv, trivial⟩) (fun _ z => nomatch z)⟩))
  · rename_i ns i
    simp only [Rep] at rb
    subst rb
    simp only [Option.map_eq_some_iff] at h
    obtain ⟨d', h, rfl⟩ := h
    simp only [RepT, Rep] at ra
    obtain ⟨⟨a, rfl, sq⟩, rfl⟩ := ra
    have e : atI (ns.map V.int) i = some (.int d') := by
      unfold atI at h ⊢
      rw [List.length_map]
      simp only [Option.bind_eq_some_iff] at h ⊢
      obtain ⟨j, h1, h2⟩ := h
      exact ⟨j, h1, by rw [List.getElem?_map, h2]; rfl⟩
    exact .inl (.inl ⟨a, _, i, _, rfl, rfl, hk ▸ Same.sqL sm sq, e, q _ [] (RepT_int) (fun _ z => nomatch z)⟩)
  · rename_i z i
    simp only [Rep] at rb
    subst rb
    split at h
    · rename_i hz
      simp only [Option.map_eq_some_iff] at h
      obtain ⟨c, h, rfl⟩ := h
      simp only [RepT, Rep] at ra
      obtain ⟨rfl, rfl⟩ := ra
      exact .inl (.inr (.inr ⟨z, i, c, rfl, rfl, hz, h, q _ [] (by simp [RepT, Rep]) (fun _ z => nomatch z)⟩))
    · cases h
  · rename_i ks ds d
    simp only [Option.bind_eq_some_iff, Option.map_eq_some_iff] at h
    obtain ⟨k, hk', d', h, rfl⟩ := h
    simp only [RepT, Rep] at ra
    obtain ⟨⟨a, vs, rfl, sq, l, rs⟩, rfl⟩ := ra
    obtain ⟨v, e, rv⟩ := lookD_valV (fun d v => Rep g Hs d v) h rs.at_ l
    rw [keyOf_kV hk' rb]
    exact .inr ⟨a, v, rfl, .inl ⟨_, k, .inl (sm _ _ sq), rfl, e.symm⟩, q v [] (by simp only [RepT]; exact ⟨rv, trivial⟩) (fun _ z => nomatch z)⟩
  · rename_i ts i
    simp only [Rep] at rb
    subst rb
    simp only [RepT] at ra
    obtain ⟨a, vs, fp', rfl, sq, rfl, rs⟩ := ra
    obtain ⟨v, e, f, rv, hf⟩ := atI_rel (R := fun d v => ∃ f, RepT g Hs H d v f ∧ ∀ a ∈ f, a ∈ _) h rs.length rs.at_
    exact .inl (.inl ⟨a, vs, i, v, rfl, rfl, SqL.of sq, e, q v f rv fun b hb => by simp [hf b hb]⟩)
  · rename_i ts i
    simp only [Rep] at rb
    subst rb
    simp only [RepT] at ra
    obtain ⟨a, vs, rfl, sq, rs⟩ := ra
    obtain ⟨v, e, f, rv, hf⟩ := atI_rel (R := fun d v => ∃ f, RepT g Hs H d v f ∧ ∀ a ∈ f, a ∈ _) h rs.length rs.at_
    exact .inl (.inr (.inl ⟨a, vs, i, v, rfl, rfl, SqT.of (sm _ _ sq), e, q v f rv hf⟩))
  · rename_i ks ts d
    simp only [Option.bind_eq_some_iff] at h
    obtain ⟨k, hk', h⟩ := h
    simp only [RepT] at ra
    obtain ⟨a, vs, fp', rfl, sq, l, rfl, rs⟩ := ra
    obtain ⟨v, e, f, rv, hf⟩ := lookD_valV (fun d v => ∃ f, RepT g Hs H d v f ∧ ∀ a ∈ f, a ∈ _) h rs.at_ l
    rw [keyOf_kV hk' rb]
    exact .inr ⟨a, v, rfl, .inl ⟨_, k, .inl sq, rfl, e.symm⟩, q v f rv fun b hb => by simp [hf b hb]⟩
  · cases h
theorem isEmpty_len {α β : Type} {vs : List α} {xs : List β} (h : vs.length = xs.length) : vs.isEmpty = xs.isEmpty := by
  cases vs <;> cases xs <;> first | rfl | simp at h
theorem truD {X : Cx} {g : Gx} {H : Hp} {d : D} {v : V} {k : Bool} (hk : g.K = X.K) (r : Rep g H d v) (h : d.tru = some k) : TruV X.K v H k := by
  cases d <;> simp only [D.tru, Rep] at h r
  · cases h; subst r; rfl
  · cases h; subst r; rfl
  · cases h; subst r; rfl
  · split at h
    · rename_i hz
      cases h; subst r; exact ⟨hz, rfl⟩
    · cases h
  · cases h
    obtain ⟨a, vs, rfl, sq, rs⟩ := r
    have := rs.length
    exact .inr (.inl ⟨vs, hk ▸ sq, by rw [isEmpty_len rs.length]⟩)
  · cases h
    obtain ⟨a, vs, rfl, sq, rs⟩ := r
    have := rs.length
    exact .inl ⟨vs, .inl sq, by rw [isEmpty_len rs.length]⟩
  · cases h
    obtain ⟨a, vs, rfl, sq, l, rs⟩ := r
    rename_i ks ds
    refine .inr (.inr ⟨_, sq, ?_⟩)
    cases ks with
    | nil => rfl
    | cons k ks =>
      cases vs with
      | nil => simp at l
      | cons v vs => rfl
  · cases h
  · cases h
theorem b1R {X : Cx} {g : Gx} (hk : g.K = X.K) : ∀ b : B1, ∃ r : List V → Hp → VK → Prop, (match b with | .int => CallR X (.type "int") r | .len => CallR X (.builtin "len") r | .abs => CallR X (.builtin "abs") r) ∧
    ∀ H d v w, Rep g H d v → b1D b d = some w → w.atom = true ∧ ∀ Q : VK, Q w.at H → r [v] H Q := by
  intro b
  cases b
  · refine ⟨_, call_len.or call_lenD, fun H d v w r h => ?_⟩
    cases d <;> simp only [b1D, Rep] at h r <;> try cases h
    · split at h
      · rename_i hz
        cases h; subst r
        exact ⟨rfl, fun Q q => .inl ⟨_, _, rfl, ⟨hz, rfl⟩, q⟩⟩
      · cases h
    · obtain ⟨a, vs, rfl, sq, rs⟩ := r
      refine ⟨rfl, fun Q q => .inl ⟨_, _, rfl, .inr ⟨vs, hk ▸ sq, rfl⟩, ?_⟩⟩
      rw [rs.length]; exact q
    · obtain ⟨a, vs, rfl, sq, rs⟩ := r
      refine ⟨rfl, fun Q q => .inl ⟨_, _, rfl, .inl ⟨vs, .inl sq, rfl⟩, ?_⟩⟩
      rw [rs.length]; exact q
    · obtain ⟨a, vs, rfl, sq, l, rs⟩ := r
      refine ⟨rfl, fun Q q => .inr ⟨a, _, rfl, sq, ?_⟩⟩
      rw [List.length_zip, ← l, Nat.min_self]; exact q
    · obtain ⟨a, rfl, sq⟩ := r
      refine ⟨rfl, fun Q q => .inl ⟨_, _, rfl, .inl ⟨_, hk ▸ sq, rfl⟩, ?_⟩⟩
      rw [List.length_map]; exact q
  · refine ⟨_, call_int1, fun H d v w r h => ?_⟩
    cases d <;> simp only [b1D, Rep] at h r <;> try cases h
    · subst r; exact ⟨rfl, fun Q q => .inr ⟨_, rfl, q⟩⟩
    · subst r; exact ⟨rfl, fun Q q => .inl ⟨_, rfl, q⟩⟩
  · refine ⟨_, call_abs, fun H d v w r h => ?_⟩
    cases d <;> simp only [b1D, Rep] at h r <;> try cases h
    subst r; exact ⟨rfl, fun Q q => ⟨_, rfl, q⟩⟩
theorem b2R {X : Cx} {g : Gx} (hc : X.calm = true) : ∀ b : B2, ∃ r : List V → Hp → VK → Prop, CallR X (.builtin (match b with | .min => "min" | .max => "max")) r ∧
    ∀ H d d' v v' w, Rep g H d v → Rep g H d' v' → b2D b d d' = some w → w.atom = true ∧ ∀ Q : VK, Q w.at H → r [v, v'] H Q := by
  intro b
  cases b
  · refine ⟨_, call_min2 hc, fun H d d' v v' w r r' h => ?_⟩
    cases d <;> cases d' <;> simp only [b2D, Rep] at h r r' <;> try cases h
    subst r; subst r'; exact ⟨rfl, fun Q q => ⟨_, _, rfl, q⟩⟩
  · refine ⟨_, call_max2 hc, fun H d d' v v' w r r' h => ?_⟩
    cases d <;> cases d' <;> simp only [b2D, Rep] at h r r' <;> try cases h
    subst r; subst r'; exact ⟨rfl, fun Q q => ⟨_, _, rfl, q⟩⟩
end DL
namespace DL
open PySem PySem.Spec L2

/-! ### the text and the terms -/
structure Cxt where
  N : List Str
  look : List (Str × NameKind)
  con : List (Str × D)
  prot : List Nat
  blk : Option (List (Str × NameKind)) := none
def builtinNames : List Str := ["len", "int", "abs", "min", "max", "isinstance", "bool", "list", "tuple", "str", "dict", "range", "sorted", "set", "zip", "enumerate", "all", "any", "sum", "repr", "divmod", "ValueError", "reversed"]
/-- a def's body (or a block in it) runs, and the terms' context tells of it -/
def stoB (c : Cxt) (x : Str) : Bool := c.look.lookup x == some .local || (c.look.lookup x == some .cell && (match c.blk with
  | none => true
  | some ns => ns.lookup x == some .cell))
structure Cp (X : Cx) (g : Gx) (c : Cxt) : Prop where
  N : X.N = c.N
  nd : X.N.Nodup
  sc : ∀ x, X.env.scope.names.lookup x = c.look.lookup x
  calm : X.calm = true
  hk : g.K = X.K
  hu : X.A.units + 100 < cLine
  bn : ∀ x ∈ builtinNames, X.mg x = none
  kind : X.env.scope.kind = .function
  gd : X.A.guards = some []
  fn : ∀ x, stoB c x = true → X.fn x = true ∨ X.env.scope.names.lookup x = some .local
  con : ∀ p ∈ c.con, p.2.atom = true ∧ ∃ u, X.mg p.1 = some u ∧ RelV p.2.at u

def starB : Expr → Bool
  | .Starred _ _ => true
  | _ => false
theorem star_cons {e : Expr} {es : List Expr} {env : PySem.Env} (h : starB e = false) : starEach (e :: es) env = (false, eval e env) :: starEach es env := by
  cases e <;> first | rfl | simp [starB] at h
theorem star_none {es : List Expr} {env : PySem.Env} {pos : Pos} : (∀ e ∈ es, starB e = false) → (backTo pos (starEach es env)).any (·.1) = false := by
  induction es with
  | nil => intro _; rfl
  | cons e es ih =>
    intro h
    rw [star_cons (h e (by simp))]
    have := ih fun e' he => h e' (by simp [he])
    simp only [backTo, List.map_cons, List.any_cons, Bool.false_or]
    exact this
/-- an index that is no slice -/
def slB : Expr → Bool
  | .Slice _ _ _ _ => true
  | _ => false
theorem plainIx {b : Expr} (h : slB b = false) : PlainIx b := by
  intro o i
  cases b <;> first | rfl | simp [slB] at h
def setB : Expr → Bool
  | .Set _ _ _ => true
  | _ => false
theorem noMark {b : Expr} {op : CmpOp} (h : setB b = false) : behindInMarks op b = false := by
  cases b <;> first | rfl | simp [setB] at h
theorem noMark2 {b c : Expr} {op op' : CmpOp} (h : setB c = false) : lastMarks [op, op'] [b, c] = false := by
  simp only [lastMarks]
  exact noMark h

def glB (c : Cxt) (x : Str) : Bool := c.look.lookup x == some .globalImplicit
def visB (c : Cxt) (x : Str) : Bool := (match c.look.lookup x with
  | some .local => true | some .cell => true | some .free => true | _ => false) && x != "__debug__" && x != "__classdict__"
def sameD : D → D → Bool
  | .int i, .int j => i == j
  | .str i, .str j => i == j
  | .bl i, .bl j => i == j
  | .non, .non => true
  | _, _ => false
def litB : D → Const → Bool
  | .int i, .int j => i == j
  | .str i, .str j => i == j
  | .bl i, .bool j => i == j
  | .non, .none => true
  | _, _ => false
def B1.nm : B1 → Str
  | .len => "len" | .int => "int" | .abs => "abs"
def B2.nm : B2 → Str
  | .min => "min" | .max => "max"
def conB (c : Cxt) (x : Str) (d : D) : Bool := c.con.any fun p => p.1 == x && sameD p.2 d

def Ty.bi : Ty → Bool
  | .cls _ => false
  | _ => true
def mtP (c : Cxt) : P → Expr → Bool
  | .lit d, .Constant k _ _ => litB d k
  | .sl i, .Name x _ => c.N[i]? == some x && visB c x
  | .gl x d, .Name y _ => x == y && glB c x && x != "__debug__" && conB c x d
  | .op o a b, .BinOp e1 op e2 _ => o.bin == some op && mtP c a e1 && mtP c b e2
  | .op o a b, .Compare e1 [op] [e2] _ => o.bin == none && o.cmp == some op && !setB e2 && mtP c a e1 && mtP c b e2
  | .ch o1 o2 a b d, .Compare e1 [op, op'] [e2, e3] _ => o1.bin == none && o2.bin == none && o1.cmp == some op && o2.cmp == some op' && !setB e3 && mtP c a e1 && mtP c b e2 && mtP c d e3
  | .neg a, .UnaryOp .USub e _ => mtP c a e
  | .not a, .UnaryOp .Not e _ => mtP c a e
  | .and a b, .BoolOp .And [e1, e2] _ => mtP c a e1 && mtP c b e2
  | .and a b, .BoolOp .And (e1 :: e2 :: e3 :: es) pos => mtP c a e1 && mtP c b (.BoolOp .And (e2 :: e3 :: es) pos)
  | .or a b, .BoolOp .Or [e1, e2] _ => mtP c a e1 && mtP c b e2
  | .or a b, .BoolOp .Or (e1 :: e2 :: e3 :: es) pos => mtP c a e1 && mtP c b (.BoolOp .Or (e2 :: e3 :: es) pos)
  | .ife t a b, .IfExp e1 e2 e3 _ => mtP c t e1 && mtP c a e2 && mtP c b e3
  | .ix a i, .Subscript e1 e2 _ => !slB e2 && mtP c a e1 && mtP c i e2
  | .b1 b a, .Call (.Name f _) [e] [] _ => f == b.nm && glB c f && !starB e && mtP c a e
  | .b2 b a d, .Call (.Name f _) [e, e'] [] _ => f == b.nm && glB c f && !starB e && !starB e' && mtP c a e && mtP c d e'
  | .isi a t, .Call (.Name f _) [e, .Name y _] [] _ => f == ("isinstance" : Str) && glB c f && !starB e && y == t.nm && glB c y && t.bi && mtP c a e
  | _, _ => false

/-- the slots as they may be read -/
structure View (g : Gx) (Hs H : Hp) (O : Addr → Prop) (ρ : Sl) (σ : L2.St) : Prop where
  sub : Same Hs H
  at_ : ∀ (i : Nat) t, ρ[i]? = some (some t) → ∃ v fp, σ[i]? = some (some v) ∧ RepT g Hs H t v fp ∧ ∀ a ∈ fp, O a
theorem RepE.view {g : Gx} {ρ : Sl} {σ : L2.St} {H Hs : Hp} {fs : List Addr} (s : Same Hs H) (r : RepE g Hs H ρ σ fs) : View g Hs H (· ∈ fs) ρ σ :=
  ⟨s, fun i t h => by
    obtain ⟨v, f, h1, h2, h3⟩ := r.get h
    exact ⟨v, f, h1, h2, fun a ha => List.count_pos_iff.mp (Nat.lt_of_lt_of_le (List.count_pos_iff.mpr ha) (h3 a))⟩⟩
theorem Ok.view {g : Gx} {e : Fr0} {ρ : Sl} {τ : Tm} {σ : L2.St} {H Hs : Hp} (o : Ok g e ρ τ σ H Hs) : ∃ O, View g Hs H O ρ σ := by
  obtain ⟨fs, ft, r1, _⟩ := o.own
  exact ⟨_, r1.view o.sub⟩
structure RepB (g : Gx) (Hs H : Hp) (O : Addr → Prop) (t : T) (v : V) (fp : List Addr) : Prop where
  r : RepT g Hs H t v fp
  o : ∀ a ∈ fp, O a
def PJ (X : Cx) (g : Gx) (f : Sl → Option T) (ex : Expr) : Prop :=
  ∃ te, PE X ex te ∧ ∀ ρ σ H Hs O t, View g Hs H O ρ σ → f ρ = some t → ∀ Q : VK, (∀ v fp, RepB g Hs H O t v fp → Q v H) → te σ H Q
def TJ (X : Cx) (g : Gx) (f : Sl → Option Bool) (ex : Expr) : Prop :=
  ∃ tt, PT X ex tt ∧ ∀ ρ σ H Hs O b, View g Hs H O ρ σ → f ρ = some b → ∀ Q : Bool → Hp → Prop, Q b H → tt σ H Q
def WJ (X : Cx) (g : Gx) (f : Sl → Option Bool) (ex : Expr) : Prop :=
  ∃ tt, PW X ex tt ∧ ∀ ρ σ H Hs O b, View g Hs H O ρ σ → f ρ = some b → ∀ Q : Bool → Hp → Prop, Q b H → tt σ H Q
theorem WJ.t {X : Cx} {g : Gx} {f : Sl → Option Bool} {ex : Expr} (h : WJ X g f ex) : TJ X g f ex := let ⟨tt, w, r⟩ := h; ⟨tt, w.pt, r⟩
/-- a test by the truth of a value -/
theorem PJ.t {X : Cx} {g : Gx} {f : Sl → Option T} {ex : Expr} (hk : g.K = X.K) (h : PJ X g f ex) (he : ∀ whole, isTrue ex X.env whole = (do let v ← whole; standAt ex.pos; holding [v] (truthy v))) : TJ X g (fun ρ => (f ρ).bind fun x => x.d.tru) ex := by
  obtain ⟨te, p, r⟩ := h
  refine ⟨_, pt_truth p he, fun ρ σ H Hs O b vw hf Q q => ?_⟩
  simp only [Option.bind_eq_some_iff] at hf
  obtain ⟨t, h1, h2⟩ := hf
  exact r ρ σ H Hs O t vw h1 _ fun v fp rv => ⟨b, truD hk (rv.r.now vw.sub) h2, q⟩
theorem o2_cmp {o : O2} {a b d : D} (ho : o.bin = none) (h : o2 o a b = some d) : ∃ k, d = .bl k := by
  cases o <;> simp only [O2.bin, reduceCtorEq] at ho
  all_goals (cases a <;> cases b <;> simp only [o2, isIn] at h)
  all_goals first
    | (cases h; done)
    | (cases h; exact ⟨_, rfl⟩)
    | (split at h <;> first | (cases h; exact ⟨_, rfl⟩) | (cases h; done))
    | (simp only [Option.map_eq_some_iff] at h
       obtain ⟨k, _, rfl⟩ := h
       exact ⟨_, rfl⟩)
end DL
namespace DL
open PySem PySem.Spec L2

section
variable {X : Cx} {g : Gx} {c : Cxt}
theorem RepT.fz {Hs H : Hp} {d : D} {v : V} (r : Rep g Hs d v) : RepT g Hs H (.fz d) v [] := by
  simp only [RepT]
  exact ⟨r, trivial⟩
theorem RepB.fz {Hs H : Hp} {O : Addr → Prop} {d : D} {v : V} (r : Rep g Hs d v) : RepB g Hs H O (.fz d) v [] := ⟨RepT.fz r, fun _ z => nomatch z⟩
theorem Cp.vis (k : Cp X g c) {x : Str} (h : visB c x = true) : Vis X.env.scope x ∧ (x == ("__debug__" : Str)) = false ∧ (x == ("__classdict__" : Str)) = false := by
  unfold visB at h
  simp only [Bool.and_eq_true, bne, Bool.not_eq_true'] at h
  obtain ⟨⟨h1, h2⟩, h3⟩ := h
  refine ⟨?_, h2, h3⟩
  unfold Vis
  rw [k.sc]
  split at h1
  · rename_i e; exact .inl e
  · rename_i e; exact .inr (.inl e)
  · rename_i e; exact .inr (.inr e)
  · cases h1
theorem Cp.gl (k : Cp X g c) {x : Str} (h : glB c x = true) : Gl X x := by
  unfold glB at h
  unfold Gl PySem.Env.kindOf
  rw [k.sc]
  exact beq_iff_eq.mp h
theorem sameD_eq {a b : D} (h : sameD a b = true) : a = b := by
  cases a <;> cases b <;> simp only [sameD, beq_iff_eq] at h <;> first | (subst h; rfl) | rfl | (cases h; done)

theorem pj_lit {d : D} {k : Const} {j : Nat} {pos : Pos} (h : litB d k = true) : PJ X g (evP (.lit d)) (.Constant k j pos) := by
  cases d <;> cases k <;> simp only [litB, beq_iff_eq] at h <;> (try (cases h; done))
  · exact ⟨_, pe_non, fun ρ σ H Hs O t vw hf Q q => by cases hf; exact q _ [] (RepB.fz (by simp only [Rep]))⟩
  · subst h; exact ⟨_, pe_bl, fun ρ σ H Hs O t vw hf Q q => by cases hf; exact q _ [] (RepB.fz (by simp only [Rep]))⟩
  · subst h; exact ⟨_, pe_int, fun ρ σ H Hs O t vw hf Q q => by cases hf; exact q _ [] (RepB.fz (by simp only [Rep]))⟩
  · subst h; exact ⟨_, pe_str, fun ρ σ H Hs O t vw hf Q q => by cases hf; exact q _ [] (RepB.fz (by simp only [Rep]))⟩
theorem pj_sl (k : Cp X g c) {i : Nat} {x : Str} {pos : Pos} (h1 : c.N[i]? = some x) (h2 : visB c x = true) : PJ X g (evP (.sl i)) (.Name x pos) := by
  obtain ⟨v1, v2, v3⟩ := k.vis h2
  refine ⟨_, pe_var (i := i) (by rw [k.N]; exact h1) v1 v2 v3, fun ρ σ H Hs O t vw hf Q q => ?_⟩
  have hf' : ρ[i]? = some (some t) := by
    simp only [evP] at hf
    cases e : ρ[i]? with
    | none => rw [e] at hf; cases hf
    | some o => rw [e] at hf; exact congrArg some hf
  obtain ⟨v, fp, h1, h2, h3⟩ := vw.at_ i t hf'
  exact ⟨v, h1, q v fp ⟨h2, h3⟩⟩
theorem pj_gl (k : Cp X g c) {x : Str} {d : D} {pos : Pos} (h1 : glB c x = true) (h2 : (x == ("__debug__" : Str)) = false) (h3 : conB c x d = true) : PJ X g (evP (.gl x d)) (.Name x pos) := by
  unfold conB at h3
  rw [List.any_eq_true] at h3
  obtain ⟨p, hp, h3⟩ := h3
  rw [Bool.and_eq_true] at h3
  obtain ⟨e1, e2⟩ := h3
  have e1 := beq_iff_eq.mp e1
  have e2 := sameD_eq e2
  obtain ⟨ha, u, hm, hr⟩ := k.con p hp
  rw [e1] at hm
  rw [e2] at hr ha
  exact ⟨_, pe_glob (k.gl h1) hm hr h2, fun ρ σ H Hs O t vw hf Q q => by cases hf; exact q _ [] (RepB.fz (Rep.at ha))⟩
theorem pj_bin (k : Cp X g c) {o : O2} {op : Operator} {a b : Sl → Option T} {e1 e2 : Expr} {pos : Pos} (ho : o.bin = some op) (ha : PJ X g a e1) (hb : PJ X g b e2) :
    PJ X g (fun ρ => (a ρ).bind fun x => (b ρ).bind fun y => (o2 o x.d y.d).map T.fz) (.BinOp e1 op e2 pos) := by
  obtain ⟨ta, pa, ra⟩ := ha
  obtain ⟨tb, pb, rb⟩ := hb
  obtain ⟨r, hr, rr⟩ := opD (X := X) k.hk (by have := k.hu; omega) o
  have hf : o.f = binaryOp op := by unfold O2.f; rw [ho]
  rw [hf] at hr
  refine ⟨_, pe_op hr pa pb, fun ρ σ H Hs O t vw h Q q => ?_⟩
  simp only [Option.bind_eq_some_iff, Option.map_eq_some_iff] at h
  obtain ⟨x, hx, y, hy, d, hd, rfl⟩ := h
  refine ra ρ σ H Hs O x vw hx _ fun v fp r1 => rb ρ σ H Hs O y vw hy _ fun w fp' r2 => ?_
  obtain ⟨h1, h2⟩ := rr H _ _ v w d (r1.r.now vw.sub) (r2.r.now vw.sub) hd
  exact h2 Q (q _ [] (RepB.fz (Rep.at h1)))
theorem pj_cmp (k : Cp X g c) {o : O2} {op : CmpOp} {a b : Sl → Option T} {e1 e2 : Expr} {pos : Pos} (hn : o.bin = none) (ho : o.cmp = some op) (hs : setB e2 = false) (ha : PJ X g a e1) (hb : PJ X g b e2) :
    PJ X g (fun ρ => (a ρ).bind fun x => (b ρ).bind fun y => (o2 o x.d y.d).map T.fz) (.Compare e1 [op] [e2] pos) ∧
    TJ X g (fun ρ => ((a ρ).bind fun x => (b ρ).bind fun y => (o2 o x.d y.d).map T.fz).bind fun x => x.d.tru) (.Compare e1 [op] [e2] pos) := by
  obtain ⟨ta, pa, ra⟩ := ha
  obtain ⟨tb, pb, rb⟩ := hb
  obtain ⟨r, hr, rr⟩ := opD (X := X) k.hk (by have := k.hu; omega) o
  have hf : o.f = compareOp op := by unfold O2.f; rw [hn, ho]; rfl
  rw [hf] at hr
  constructor
  · refine ⟨_, pe_cmpR hr pa pb (noMark hs), fun ρ σ H Hs O t vw h Q q => ?_⟩
    simp only [Option.bind_eq_some_iff, Option.map_eq_some_iff] at h
    obtain ⟨x, hx, y, hy, d, hd, rfl⟩ := h
    refine ra ρ σ H Hs O x vw hx _ fun v fp r1 => rb ρ σ H Hs O y vw hy _ fun w fp' r2 => ?_
    obtain ⟨h1, h2⟩ := rr H _ _ v w d (r1.r.now vw.sub) (r2.r.now vw.sub) hd
    exact h2 Q (q _ [] (RepB.fz (Rep.at h1)))
  · refine ⟨_, pt_cmpR hr pa pb (noMark hs), fun ρ σ H Hs O t vw h Q q => ?_⟩
    simp only [Option.bind_eq_some_iff, Option.map_eq_some_iff] at h
    obtain ⟨z, ⟨x, hx, y, hy, d, hd, rfl⟩, ht⟩ := h
    refine ra ρ σ H Hs O x vw hx _ fun v fp r1 => rb ρ σ H Hs O y vw hy _ fun w fp' r2 => ?_
    obtain ⟨h1, h2⟩ := rr H _ _ v w d (r1.r.now vw.sub) (r2.r.now vw.sub) hd
    obtain ⟨kb, rfl⟩ := o2_cmp hn hd
    cases ht
    exact h2 _ ⟨_, rfl, q⟩
theorem pj_ch (k : Cp X g c) {o o' : O2} {op op' : CmpOp} {a b d : Sl → Option T} {e1 e2 e3 : Expr} {pos : Pos} (hn : o.bin = none) (hn' : o'.bin = none) (ho : o.cmp = some op) (ho' : o'.cmp = some op') (hs : setB e3 = false) (ha : PJ X g a e1) (hb : PJ X g b e2) (hd : PJ X g d e3) :
    PJ X g (fun ρ => (a ρ).bind fun x => (b ρ).bind fun y => match o2 o x.d y.d with
      | some (.bl true) => (d ρ).bind fun z => (o2 o' y.d z.d).map T.fz
      | some (.bl false) => some (.fz (.bl false))
      | _ => none) (.Compare e1 [op, op'] [e2, e3] pos) ∧
    TJ X g (fun ρ => ((a ρ).bind fun x => (b ρ).bind fun y => match o2 o x.d y.d with
      | some (.bl true) => (d ρ).bind fun z => (o2 o' y.d z.d).map T.fz
      | some (.bl false) => some (.fz (.bl false))
      | _ => none).bind fun x => x.d.tru) (.Compare e1 [op, op'] [e2, e3] pos) := by
  obtain ⟨ta, pa, ra⟩ := ha
  obtain ⟨tb, pb, rb⟩ := hb
  obtain ⟨td, pd, rd⟩ := hd
  obtain ⟨r, hr, rr⟩ := opD (X := X) k.hk (by have := k.hu; omega) o
  obtain ⟨r', hr', rr'⟩ := opD (X := X) k.hk (by have := k.hu; omega) o'
  have hf : o.f = compareOp op := by unfold O2.f; rw [hn, ho]; rfl
  have hf' : o'.f = compareOp op' := by unfold O2.f; rw [hn', ho']; rfl
  rw [hf] at hr
  rw [hf'] at hr'
  have key : ∀ (ρ : Sl) (σ : L2.St) (H Hs : Hp) (O : Addr → Prop) (t : T), View g Hs H O ρ σ → ((a ρ).bind fun x => (b ρ).bind fun y => match o2 o x.d y.d with
      | some (.bl true) => (d ρ).bind fun z => (o2 o' y.d z.d).map T.fz
      | some (.bl false) => some (.fz (.bl false))
      | _ => none) = some t → ∃ kb, t = .fz (.bl kb) ∧ ∀ Q : VK, Q (.bl kb) H → tChain r r' ta tb td σ H Q := by
    intro ρ σ H Hs O t vw h
    simp only [Option.bind_eq_some_iff] at h
    obtain ⟨x, hx, y, hy, h⟩ := h
    split at h
    · rename_i e
      simp only [Option.bind_eq_some_iff, Option.map_eq_some_iff] at h
      obtain ⟨z, hz, dd, hd, rfl⟩ := h
      obtain ⟨kb, rfl⟩ := o2_cmp hn' hd
      refine ⟨kb, rfl, fun Q q => ?_⟩
      refine ra ρ σ H Hs O x vw hx _ fun v fp r1 => rb ρ σ H Hs O y vw hy _ fun w fp' r2 => ?_
      obtain ⟨h1, h2⟩ := rr H _ _ v w _ (r1.r.now vw.sub) (r2.r.now vw.sub) e
      refine h2 _ ⟨true, rfl, iteT (rd ρ σ H Hs O z vw hz _ fun w' fp'' r3 => ?_)⟩
      obtain ⟨h3, h4⟩ := rr' H _ _ w w' _ (r2.r.now vw.sub) (r3.r.now vw.sub) hd
      exact h4 Q q
    · rename_i e
      cases h
      refine ⟨false, rfl, fun Q q => ?_⟩
      refine ra ρ σ H Hs O x vw hx _ fun v fp r1 => rb ρ σ H Hs O y vw hy _ fun w fp' r2 => ?_
      obtain ⟨h1, h2⟩ := rr H _ _ v w _ (r1.r.now vw.sub) (r2.r.now vw.sub) e
      exact h2 _ ⟨false, rfl, iteF q⟩
    · cases h
  constructor
  · refine ⟨_, pe_chain hr hr' pa pb pd (noMark2 hs), fun ρ σ H Hs O t vw h Q q => ?_⟩
    obtain ⟨kb, rfl, hq⟩ := key ρ σ H Hs O t vw h
    exact hq Q (q _ [] (RepB.fz (by simp only [Rep])))
  · refine ⟨_, pt_chain hr hr' pa pb pd (noMark2 hs), fun ρ σ H Hs O t vw h Q q => ?_⟩
    rw [Option.bind_eq_some_iff] at h
    obtain ⟨x, hx, ht⟩ := h
    obtain ⟨kb, rfl, hq⟩ := key ρ σ H Hs O x vw hx
    cases ht
    exact hq _ ⟨_, rfl, q⟩
theorem pj_not {a : Sl → Option T} {e : Expr} {pos : Pos} (k : Cp X g c) (ha : PJ X g a e) : PJ X g (fun ρ => (a ρ).bind fun x => x.d.tru.map fun k => .fz (.bl (!k))) (.UnaryOp .Not e pos) := by
  obtain ⟨ta, pa, ra⟩ := ha
  refine ⟨_, pe_notT pa, fun ρ σ H Hs O t vw h Q q => ?_⟩
  simp only [Option.bind_eq_some_iff, Option.map_eq_some_iff] at h
  obtain ⟨x, hx, kb, hb, rfl⟩ := h
  refine ra ρ σ H Hs O x vw hx _ fun v fp r1 => ?_
  exact ⟨kb, truD k.hk (r1.r.now vw.sub) hb, q _ [] (RepB.fz (by simp only [Rep]))⟩
theorem tj_not {a : Sl → Option Bool} {e : Expr} {pos : Pos} (ha : TJ X g a e) : TJ X g (fun ρ => (a ρ).map fun k => !k) (.UnaryOp .Not e pos) := by
  obtain ⟨ta, pa, ra⟩ := ha
  refine ⟨_, pt_not pa, fun ρ σ H Hs O t vw h Q q => ?_⟩
  simp only [Option.map_eq_some_iff] at h
  obtain ⟨x, hx, rfl⟩ := h
  exact ra ρ σ H Hs O x vw hx _ q
theorem pj_and {a b : Sl → Option T} {e1 e2 : Expr} {es : List Expr} {pos : Pos} (k : Cp X g c) (ha : PJ X g a e1) (hb : PJ X g b (.BoolOp .And (e2 :: es) pos)) :
    PJ X g (fun ρ => (a ρ).bind fun x => match x.d.tru with
      | some true => b ρ
      | some false => some x
      | none => none) (.BoolOp .And (e1 :: e2 :: es) pos) := by
  obtain ⟨ta, pa, ra⟩ := ha
  obtain ⟨tb, pb, rb⟩ := hb
  refine ⟨_, pe_andT pa pb, fun ρ σ H Hs O t vw h Q q => ?_⟩
  simp only [Option.bind_eq_some_iff] at h
  obtain ⟨x, hx, h⟩ := h
  refine ra ρ σ H Hs O x vw hx _ fun v fp r1 => ?_
  split at h
  · rename_i e
    exact ⟨true, truD k.hk (r1.r.now vw.sub) e, iteT (rb ρ σ H Hs O t vw h Q q)⟩
  · rename_i e
    cases h
    exact ⟨false, truD k.hk (r1.r.now vw.sub) e, iteF (q v fp r1)⟩
  · cases h
theorem pj_or {a b : Sl → Option T} {e1 e2 : Expr} {es : List Expr} {pos : Pos} (k : Cp X g c) (ha : PJ X g a e1) (hb : PJ X g b (.BoolOp .Or (e2 :: es) pos)) :
    PJ X g (fun ρ => (a ρ).bind fun x => match x.d.tru with
      | some true => some x
      | some false => b ρ
      | none => none) (.BoolOp .Or (e1 :: e2 :: es) pos) := by
  obtain ⟨ta, pa, ra⟩ := ha
  obtain ⟨tb, pb, rb⟩ := hb
  refine ⟨_, pe_orT pa pb, fun ρ σ H Hs O t vw h Q q => ?_⟩
  simp only [Option.bind_eq_some_iff] at h
  obtain ⟨x, hx, h⟩ := h
  refine ra ρ σ H Hs O x vw hx _ fun v fp r1 => ?_
  split at h
  · rename_i e
    cases h
    exact ⟨true, truD k.hk (r1.r.now vw.sub) e, iteT (q v fp r1)⟩
  · rename_i e
    exact ⟨false, truD k.hk (r1.r.now vw.sub) e, iteF (rb ρ σ H Hs O t vw h Q q)⟩
  · cases h
theorem wj_and1 {a : Sl → Option Bool} {e : Expr} {pos : Pos} (ha : TJ X g a e) : WJ X g a (.BoolOp .And [e] pos) := let ⟨ta, pa, ra⟩ := ha; ⟨ta, pw_and1 pa, ra⟩
theorem wj_or1 {a : Sl → Option Bool} {e : Expr} {pos : Pos} (ha : TJ X g a e) : WJ X g a (.BoolOp .Or [e] pos) := let ⟨ta, pa, ra⟩ := ha; ⟨ta, pw_or1 pa, ra⟩
theorem wj_and {a b : Sl → Option Bool} {e1 e2 : Expr} {es : List Expr} {pos : Pos} (ha : TJ X g a e1) (hb : WJ X g b (.BoolOp .And (e2 :: es) pos)) :
    WJ X g (fun ρ => match a ρ with
      | some true => b ρ
      | some false => some false
      | none => none) (.BoolOp .And (e1 :: e2 :: es) pos) := by
  obtain ⟨ta, pa, ra⟩ := ha
  obtain ⟨tb, pb, rb⟩ := hb
  refine ⟨_, pw_and pa pb, fun ρ σ H Hs O t vw h Q q => ?_⟩
  simp only at h
  split at h
  · rename_i e
    exact ra ρ σ H Hs O true vw e _ (iteT (rb ρ σ H Hs O t vw h Q q))
  · rename_i e
    cases h
    exact ra ρ σ H Hs O false vw e _ (iteF q)
  · cases h
theorem wj_or {a b : Sl → Option Bool} {e1 e2 : Expr} {es : List Expr} {pos : Pos} (ha : TJ X g a e1) (hb : WJ X g b (.BoolOp .Or (e2 :: es) pos)) :
    WJ X g (fun ρ => match a ρ with
      | some true => some true
      | some false => b ρ
      | none => none) (.BoolOp .Or (e1 :: e2 :: es) pos) := by
  obtain ⟨ta, pa, ra⟩ := ha
  obtain ⟨tb, pb, rb⟩ := hb
  refine ⟨_, pw_or pa pb, fun ρ σ H Hs O t vw h Q q => ?_⟩
  simp only at h
  split at h
  · rename_i e
    cases h
    exact ra ρ σ H Hs O true vw e _ (iteT q)
  · rename_i e
    exact ra ρ σ H Hs O false vw e _ (iteF (rb ρ σ H Hs O t vw h Q q))
  · cases h
theorem pj_ife {t a b : Sl → Option T} {tb' : Sl → Option Bool} {e1 e2 e3 : Expr} {pos : Pos} (ht : TJ X g tb' e1) (htb : ∀ ρ x k, t ρ = some x → x.d.tru = some k → tb' ρ = some k) (ha : PJ X g a e2) (hb : PJ X g b e3) :
    PJ X g (fun ρ => match t ρ with
      | none => none
      | some x => match x.d.tru with
        | some true => a ρ
        | some false => b ρ
        | none => none) (.IfExp e1 e2 e3 pos) := by
  obtain ⟨tt, pt, rt⟩ := ht
  obtain ⟨ta, pa, ra⟩ := ha
  obtain ⟨tb, pb, rb⟩ := hb
  refine ⟨_, pe_ifExp pt pa pb, fun ρ σ H Hs O z vw h Q q => ?_⟩
  simp only at h
  split at h
  · cases h
  · rename_i x hx
    split at h
    · rename_i e
      exact rt ρ σ H Hs O true vw (htb ρ x _ hx e) _ (iteT (ra ρ σ H Hs O z vw h Q q))
    · rename_i e
      exact rt ρ σ H Hs O false vw (htb ρ x _ hx e) _ (iteF (rb ρ σ H Hs O z vw h Q q))
    · cases h
theorem pj_ix (k : Cp X g c) {a i : Sl → Option T} {e1 e2 : Expr} {pos : Pos} (hs : slB e2 = false) (ha : PJ X g a e1) (hi : PJ X g i e2) :
    PJ X g (fun ρ => (a ρ).bind fun x => (i ρ).bind fun y => ixT x y.d) (.Subscript e1 e2 pos) := by
  obtain ⟨ta, pa, ra⟩ := ha
  obtain ⟨tb, pb, rb⟩ := hi
  obtain ⟨r, hr, rr⟩ := ixD (X := X) k.hk (by have := k.hu; omega)
  refine ⟨_, pe_ix hr pa pb (plainIx hs), fun ρ σ H Hs O t vw h Q q => ?_⟩
  simp only [Option.bind_eq_some_iff] at h
  obtain ⟨x, hx, y, hy, h⟩ := h
  exact ra ρ σ H Hs O x vw hx _ fun v fp r1 => rb ρ σ H Hs O y vw hy _ fun w fp' r2 => rr Hs H x y.d t v w fp vw.sub r1.r (r2.r.now vw.sub) h Q fun v' fp'' rv hv => q v' fp'' ⟨rv, fun a ha => r1.o a (hv a ha)⟩
theorem pj_neg {a : P} {e : Expr} {pos : Pos} (ha : PJ X g (evP a) e) : PJ X g (evP (.neg a)) (.UnaryOp .USub e pos) := by
  obtain ⟨ta, pa, ra⟩ := ha
  refine ⟨_, pe_un un_neg pa, fun ρ σ H Hs O t vw h Q q => ?_⟩
  simp only [evP] at h
  split at h
  · rename_i i e
    cases h
    refine ra ρ σ H Hs O _ vw e _ fun v fp r1 => ?_
    have r1 := r1.r
    simp only [RepT, Rep] at r1
    exact ⟨i, r1.1, q _ [] (RepB.fz (by simp only [Rep]))⟩
  · cases h
theorem pa_one {ta : TE} {e : Expr} (pa : PE X e ta) (hs : starB e = false) : PA X [e] (tCons ta tNil) := pa_cons pa pa_nil (star_cons hs)
theorem pj_b1 (k : Cp X g c) {b : B1} {a : Sl → Option T} {f : Str} {e : Expr} {p pos : Pos} (hf : f = b.nm) (hg : glB c f = true) (hs : starB e = false) (ha : PJ X g a e) :
    PJ X g (fun ρ => (a ρ).bind fun x => (b1D b x.d).map T.fz) (.Call (.Name f p) [e] [] pos) := by
  obtain ⟨ta, pa, ra⟩ := ha
  obtain ⟨r, hr, rr⟩ := b1R (X := X) k.hk b
  have main : ∀ ρ σ H Hs O t, View g Hs H O ρ σ → ((a ρ).bind fun x => (b1D b x.d).map T.fz) = some t → ∀ Q : VK, (∀ v fp, RepB g Hs H O t v fp → Q v H) → tCB r (tCons ta tNil) σ H Q := fun ρ σ H Hs O t vw h Q q => by
    simp only [Option.bind_eq_some_iff, Option.map_eq_some_iff] at h
    obtain ⟨x, hx, d, hd, rfl⟩ := h
    refine ra ρ σ H Hs O x vw hx _ fun v fp r1 => ?_
    obtain ⟨h1, h2⟩ := rr H x.d v d (r1.r.now vw.sub) hd
    exact h2 Q (q _ [] (RepB.fz (Rep.at h1)))
  subst hf
  cases b
  · exact ⟨_, pe_callB hr (k.gl hg) (k.bn _ (by decide)) PySem.boot_len (pa_one pa hs) (by decide) (by decide) (star_cons hs) (by rfl), main⟩
  · exact ⟨_, pe_callTy hr (k.gl hg) (k.bn _ (by decide)) (by decide +kernel) (pa_one pa hs) (by decide) (by decide) (star_cons hs) (by rfl), main⟩
  · exact ⟨_, pe_callB hr (k.gl hg) (k.bn _ (by decide)) (by decide +kernel) (pa_one pa hs) (by decide) (by decide) (star_cons hs) (by rfl), main⟩
theorem pa_two {ta tb : TE} {e e' : Expr} (pa : PE X e ta) (pb : PE X e' tb) (hs : starB e = false) (hs' : starB e' = false) : PA X [e, e'] (tCons ta (tCons tb tNil)) := pa_cons pa (pa_one pb hs') (star_cons hs)
theorem pj_b2 (k : Cp X g c) {b : B2} {a d : Sl → Option T} {f : Str} {e e' : Expr} {p pos : Pos} (hf : f = b.nm) (hg : glB c f = true) (hs : starB e = false) (hs' : starB e' = false) (ha : PJ X g a e) (hd : PJ X g d e') :
    PJ X g (fun ρ => (a ρ).bind fun x => (d ρ).bind fun y => (b2D b x.d y.d).map T.fz) (.Call (.Name f p) [e, e'] [] pos) := by
  obtain ⟨ta, pa, ra⟩ := ha
  obtain ⟨tb, pb, rb⟩ := hd
  obtain ⟨r, hr, rr⟩ := b2R (X := X) (g := g) k.calm b
  have main : ∀ ρ σ H Hs O t, View g Hs H O ρ σ → ((a ρ).bind fun x => (d ρ).bind fun y => (b2D b x.d y.d).map T.fz) = some t → ∀ Q : VK, (∀ v fp, RepB g Hs H O t v fp → Q v H) → tCB r (tCons ta (tCons tb tNil)) σ H Q := fun ρ σ H Hs O t vw h Q q => by
    simp only [Option.bind_eq_some_iff, Option.map_eq_some_iff] at h
    obtain ⟨x, hx, y, hy, d, hd, rfl⟩ := h
    refine ra ρ σ H Hs O x vw hx _ fun v fp r1 => rb ρ σ H Hs O y vw hy _ fun w fp' r2 => ?_
    obtain ⟨h1, h2⟩ := rr H x.d y.d v w d (r1.r.now vw.sub) (r2.r.now vw.sub) hd
    exact h2 Q (q _ [] (RepB.fz (Rep.at h1)))
  subst hf
  cases b
  · exact ⟨_, pe_callB hr (k.gl hg) (k.bn _ (by decide)) (by decide +kernel) (pa_two pa pb hs hs') (by decide) (by decide) (star_cons hs) (star_none fun x hx => by simp at hx; subst hx; exact hs'), main⟩
  · exact ⟨_, pe_callB hr (k.gl hg) (k.bn _ (by decide)) (by decide +kernel) (pa_two pa pb hs hs') (by decide) (by decide) (star_cons hs) (star_none fun x hx => by simp at hx; subst hx; exact hs'), main⟩
end
end DL
namespace DL
open PySem PySem.Spec L2

section
variable {X : Cx} {g : Gx} {c : Cxt}
theorem sql_ty {K : PySem.W.Frag} {H : Hp} {a : Addr} {xs : List V} (h : SqL K H a xs) : TyX K H (.ref a) (.type "list") := by
  rcases h with (h | ⟨o, h⟩) | ⟨o, its, n, hk, hc, _⟩
  · exact .base (.lst h)
  · exact .base (.frz h)
  · exact .kList hk hc
theorem sqt_ty {K : PySem.W.Frag} {H : Hp} {a : Addr} {xs : List V} (h : SqT K H a xs) : TyX K H (.ref a) (.type "tuple") := by
  rcases h with (h | ⟨o, h⟩) | ⟨o, its, n, hk, hc, _⟩
  · exact .base (.tup h)
  · exact .fTuple h
  · exact .kTuple hk hc
/-- a thing's type, by its data -/
def D.ty : D → String
  | .non => "NoneType" | .bl _ => "bool" | .int _ => "int" | .str _ => "str" | .tup _ => "tuple" | .lst _ => "list" | .dic _ _ => "dict" | .obj _ _ _ => "" | .scr _ => "list"
theorem Rep.ty {H : Hp} {d : D} {v : V} (r : Rep g H d v) (h : ∀ n ns xs, d ≠ .obj n ns xs) : TyX g.K H v (.type d.ty) := by
  cases d <;> simp only [Rep, D.ty] at r ⊢
  · subst r; exact .base .non
  · subst r; exact .base (.bl _)
  · subst r; exact .base (.int _)
  · subst r; exact .base (.str _)
  · obtain ⟨a, vs, rfl, sq, _⟩ := r; exact sqt_ty sq
  · obtain ⟨a, vs, rfl, sq, _⟩ := r; exact sql_ty (.inl sq)
  · obtain ⟨a, vs, rfl, sq, _⟩ := r; exact .base (.dK sq)
  · exact absurd rfl (h _ _ _)
  · obtain ⟨a, rfl, sq⟩ := r; exact sql_ty sq
def Ty.tn : Ty → String
  | .int => "int" | .bool => "bool" | .list => "list" | .tuple => "tuple" | .str => "str" | .dict => "dict" | .cls _ => ""
theorem isi_kit {K : PySem.W.Frag} {t : Ty} {d : D} {b : Bool} (h : isiD t d = some b) : PySem.W.kitOne K (.type d.ty) (.type t.tn) = some b ∧ ∀ n ns xs, d ≠ .obj n ns xs := by
  cases t <;> cases d <;> simp only [isiD, reduceCtorEq] at h <;> (try (cases h)) <;> exact ⟨by rfl, fun _ _ _ z => by cases z⟩
theorem pj_isi (k : Cp X g c) {a : Sl → Option T} {t : Ty} {f y : Str} {e : Expr} {p p' pos : Pos} (hf : f = ("isinstance" : Str)) (hg : glB c f = true) (hs : starB e = false) (hy : y = t.nm) (hgy : glB c y = true) (hc : t.bi = true) (ha : PJ X g a e) :
    PJ X g (fun ρ => (a ρ).bind fun x => (isiD t x.d).map fun k => .fz (.bl k)) (.Call (.Name f p) [e, .Name y p'] [] pos) := by
  obtain ⟨ta, pa, ra⟩ := ha
  have hv : bootBuiltins y = some (.type t.tn) := by
    subst hy
    cases t <;> first | (cases hc; done) | decide +kernel
  have hm : X.mg y = none := k.bn _ (by subst hy; cases t <;> first | (cases hc; done) | decide)
  have pb : PE X (.Name y p') (tC (.ty t.tn)) := pe_bltn (k.gl hgy) hm hv rfl (by subst hy; cases t <;> first | (cases hc; done) | decide) (by subst hy; cases t <;> first | (cases hc; done) | decide)
  subst hf
  refine ⟨_, pe_callB call_isi (k.gl hg) (k.bn _ (by decide)) (by decide +kernel) (pa_two pa pb hs rfl) (by decide) (by decide) (star_cons hs) (by rfl), fun ρ σ H Hs O z vw h Q q => ?_⟩
  simp only [Option.bind_eq_some_iff, Option.map_eq_some_iff] at h
  obtain ⟨x, hx, b, hb, rfl⟩ := h
  refine ra ρ σ H Hs O x vw hx _ fun v fp r1 => ?_
  obtain ⟨h1, h2⟩ := isi_kit (K := X.K) hb
  exact ⟨v, .ty t.tn, _, _, b, rfl, .ty _, k.hk ▸ (r1.r.now vw.sub).ty h2, h1, q _ [] (RepB.fz (by simp only [Rep]))⟩

theorem evT_evP : ∀ (p : P) (ρ : Sl) (x : T) (b : Bool), evP p ρ = some x → x.d.tru = some b → evT p ρ = some b := by
  intro p
  induction p with
  | not a ih =>
    intro ρ x b h1 h2
    simp only [evP, evT, Option.bind_eq_some_iff, Option.map_eq_some_iff] at h1 ⊢
    obtain ⟨y, hy, kb, hb, rfl⟩ := h1
    cases h2
    exact ⟨kb, ih ρ y kb hy hb, rfl⟩
  | and p q ih1 ih2 =>
    intro ρ x b h1 h2
    simp only [evP, evT, Option.bind_eq_some_iff] at h1 ⊢
    obtain ⟨y, hy, h1⟩ := h1
    split at h1
    · rename_i e
      rw [ih1 ρ _ true hy e]
      exact ih2 ρ x b h1 h2
    · rename_i e
      cases h1
      rw [ih1 ρ _ false hy e]
      rw [e] at h2
      cases h2
      rfl
    · cases h1
  | or p q ih1 ih2 =>
    intro ρ x b h1 h2
    simp only [evP, evT, Option.bind_eq_some_iff] at h1 ⊢
    obtain ⟨y, hy, h1⟩ := h1
    split at h1
    · rename_i e
      cases h1
      rw [ih1 ρ _ true hy e]
      rw [e] at h2
      cases h2
      rfl
    · rename_i e
      rw [ih1 ρ _ false hy e]
      exact ih2 ρ x b h1 h2
    · cases h1
  | ife t p q ih0 ih1 ih2 =>
    intro ρ x b h1 h2
    simp only [evP, evT] at h1 ⊢
    split at h1
    · cases h1
    · rename_i y hy
      split at h1
      · rename_i e
        rw [ih0 ρ y true hy e]
        exact ih1 ρ x b h1 h2
      · rename_i e
        rw [ih0 ρ y false hy e]
        exact ih2 ρ x b h1 h2
      · cases h1
  | _ =>
    intro ρ x b h1 h2
    simp only [evT]
    rw [h1]
    exact h2
/-- a if t else b, as a test -/
theorem tj_ife {t a b : Sl → Option Bool} {e1 e2 e3 : Expr} {pos : Pos} (ht : TJ X g t e1) (ha : TJ X g a e2) (hb : TJ X g b e3) :
    TJ X g (fun ρ => match t ρ with
      | some true => a ρ
      | some false => b ρ
      | none => none) (.IfExp e1 e2 e3 pos) := by
  obtain ⟨tt, pt, rt⟩ := ht
  obtain ⟨ta, pa, ra⟩ := ha
  obtain ⟨tb, pb, rb⟩ := hb
  refine ⟨fun σ H Q => tt σ H fun c H1 => if c = true then ta σ H1 Q else tb σ H1 Q, ⟨fun pins s σ H Q I h => ?_⟩, fun ρ σ H Hs O z vw h Q q => ?_⟩
  · refine PyProof.Rows.isTrue_IfExp (thn (pt.run pins s σ H _ I h) fun d s1 ⟨H1, I1, q1⟩ => ?_)
    cases d with
    | true => exact pa.run pins s1 σ H1 Q I1 q1
    | false => exact pb.run pins s1 σ H1 Q I1 q1
  · simp only at h
    split at h
    · rename_i e
      exact rt ρ σ H Hs O true vw e _ (iteT (ra ρ σ H Hs O z vw h Q q))
    · rename_i e
      exact rt ρ σ H Hs O false vw e _ (iteF (rb ρ σ H Hs O z vw h Q q))
    · cases h

def SndP (X : Cx) (g : Gx) (p : P) (e : Expr) : Prop := PJ X g (evP p) e ∧ TJ X g (evT p) e ∧ (∀ op es pos, e = .BoolOp op es pos → WJ X g (evT p) e)
theorem SndP.mk1 (k : Cp X g c) {p : P} {e : Expr} (h : PJ X g (evP p) e) (he : ∀ whole, isTrue e X.env whole = (do let v ← whole; standAt e.pos; holding [v] (truthy v))) (ht : evT p = fun ρ => (evP p ρ).bind fun x => x.d.tru) (hb : ∀ op es pos, e ≠ .BoolOp op es pos) : SndP X g p e :=
  ⟨h, by rw [ht]; exact h.t k.hk he, fun op es pos z => absurd z (hb op es pos)⟩
theorem soundP (k : Cp X g c) : ∀ (p : P) (e : Expr), mtP c p e = true → SndP X g p e := by
  intro p
  induction p with
  | lit d =>
    intro e h
    unfold mtP at h
    split at h <;> rename_i z <;> (try (cases z; done)) <;> (try (cases h; done))
    cases z
    exact SndP.mk1 k (pj_lit h) (fun _ => rfl) rfl (fun _ _ _ z => by cases z)
  | sl i =>
    intro e h
    unfold mtP at h
    split at h <;> rename_i z <;> (try (cases z; done)) <;> (try (cases h; done))
    cases z
    rw [Bool.and_eq_true] at h
    exact SndP.mk1 k (pj_sl k (beq_iff_eq.mp h.1) h.2) (fun _ => rfl) rfl (fun _ _ _ z => by cases z)
  | gl x d =>
    intro e h
    unfold mtP at h
    split at h <;> rename_i z <;> (try (cases z; done)) <;> (try (cases h; done))
    cases z
    simp only [Bool.and_eq_true, bne, Bool.not_eq_true'] at h
    obtain ⟨⟨⟨h1, h2⟩, h3⟩, h4⟩ := h
    have h1 := beq_iff_eq.mp h1
    subst h1
    exact SndP.mk1 k (pj_gl k h2 h3 h4) (fun _ => rfl) rfl (fun _ _ _ z => by cases z)
  | op o a b ia ib =>
    intro e h
    unfold mtP at h
    split at h <;> rename_i z <;> (try (cases z; done)) <;> (try (cases h; done))
    · cases z
      simp only [Bool.and_eq_true] at h
      obtain ⟨⟨h1, h2⟩, h3⟩ := h
      exact SndP.mk1 k (pj_bin k (beq_iff_eq.mp h1) (ia _ h2).1 (ib _ h3).1) (fun _ => rfl) rfl (fun _ _ _ z => by cases z)
    · cases z
      simp only [Bool.and_eq_true, Bool.not_eq_true'] at h
      obtain ⟨⟨⟨⟨h1, h2⟩, h3⟩, h4⟩, h5⟩ := h
      obtain ⟨r1, r2⟩ := pj_cmp k (beq_iff_eq.mp h1) (beq_iff_eq.mp h2) h3 (ia _ h4).1 (ib _ h5).1
      exact ⟨r1, r2, fun _ _ _ z => by cases z⟩
  | ch o1 o2 a b d ia ib id =>
    intro e h
    unfold mtP at h
    split at h <;> rename_i z <;> (try (cases z; done)) <;> (try (cases h; done))
    cases z
    simp only [Bool.and_eq_true, Bool.not_eq_true'] at h
    obtain ⟨⟨⟨⟨⟨⟨⟨h1, h2⟩, h3⟩, h4⟩, h5⟩, h6⟩, h7⟩, h8⟩ := h
    obtain ⟨r1, r2⟩ := pj_ch k (beq_iff_eq.mp h1) (beq_iff_eq.mp h2) (beq_iff_eq.mp h3) (beq_iff_eq.mp h4) h5 (ia _ h6).1 (ib _ h7).1 (id _ h8).1
    exact ⟨r1, r2, fun _ _ _ z => by cases z⟩
  | neg a ia =>
    intro e h
    unfold mtP at h
    split at h <;> rename_i z <;> (try (cases z; done)) <;> (try (cases h; done))
    cases z
    exact SndP.mk1 k (pj_neg (ia _ h).1) (fun _ => rfl) rfl (fun _ _ _ z => by cases z)
  | not a ia =>
    intro e h
    unfold mtP at h
    split at h <;> rename_i z <;> (try (cases z; done)) <;> (try (cases h; done))
    cases z
    exact ⟨pj_not k (ia _ h).1, tj_not (ia _ h).2.1, fun _ _ _ z => by cases z⟩
  | and a b ia ib =>
    intro e h
    unfold mtP at h
    split at h <;> rename_i z <;> (try (cases z; done)) <;> (try (cases h; done))
    · cases z
      rw [Bool.and_eq_true] at h
      have w := wj_and (pos := by assumption) (ia _ h.1).2.1 (wj_and1 (ib _ h.2).2.1)
      obtain ⟨te, pe, re⟩ := (ib _ h.2).1
      exact ⟨pj_and k (ia _ h.1).1 ⟨te, pe_one pe, re⟩, WJ.t w, fun op es pos z => by cases z; exact w⟩
    · cases z
      rw [Bool.and_eq_true] at h
      obtain ⟨r1, r2, r3⟩ := ib _ h.2
      have w := wj_and (ia _ h.1).2.1 (r3 _ _ _ rfl)
      exact ⟨pj_and k (ia _ h.1).1 r1, WJ.t w, fun op es pos z => by cases z; exact w⟩
  | or a b ia ib =>
    intro e h
    unfold mtP at h
    split at h <;> rename_i z <;> (try (cases z; done)) <;> (try (cases h; done))
    · cases z
      rw [Bool.and_eq_true] at h
      have w := wj_or (pos := by assumption) (ia _ h.1).2.1 (wj_or1 (ib _ h.2).2.1)
      obtain ⟨te, pe, re⟩ := (ib _ h.2).1
      exact ⟨pj_or k (ia _ h.1).1 ⟨te, pe_one pe, re⟩, WJ.t w, fun op es pos z => by cases z; exact w⟩
    · cases z
      rw [Bool.and_eq_true] at h
      obtain ⟨r1, r2, r3⟩ := ib _ h.2
      have w := wj_or (ia _ h.1).2.1 (r3 _ _ _ rfl)
      exact ⟨pj_or k (ia _ h.1).1 r1, WJ.t w, fun op es pos z => by cases z; exact w⟩
  | ife t a b it ia ib =>
    intro e h
    unfold mtP at h
    split at h <;> rename_i z <;> (try (cases z; done)) <;> (try (cases h; done))
    cases z
    simp only [Bool.and_eq_true] at h
    obtain ⟨⟨h1, h2⟩, h3⟩ := h
    exact ⟨pj_ife (it _ h1).2.1 (fun ρ x kb e1 e2 => evT_evP t ρ x kb e1 e2) (ia _ h2).1 (ib _ h3).1, tj_ife (it _ h1).2.1 (ia _ h2).2.1 (ib _ h3).2.1, fun _ _ _ z => by cases z⟩
  | ix a i ia ii =>
    intro e h
    unfold mtP at h
    split at h <;> rename_i z <;> (try (cases z; done)) <;> (try (cases h; done))
    cases z
    simp only [Bool.and_eq_true, Bool.not_eq_true'] at h
    obtain ⟨⟨h1, h2⟩, h3⟩ := h
    exact SndP.mk1 k (pj_ix k h1 (ia _ h2).1 (ii _ h3).1) (fun _ => rfl) rfl (fun _ _ _ z => by cases z)
  | b1 b a ia =>
    intro e h
    unfold mtP at h
    split at h <;> rename_i z <;> (try (cases z; done)) <;> (try (cases h; done))
    cases z
    simp only [Bool.and_eq_true, Bool.not_eq_true'] at h
    obtain ⟨⟨⟨h1, h2⟩, h3⟩, h4⟩ := h
    exact SndP.mk1 k (pj_b1 k (beq_iff_eq.mp h1) h2 h3 (ia _ h4).1) (fun _ => rfl) rfl (fun _ _ _ z => by cases z)
  | b2 b a d ia id =>
    intro e h
    unfold mtP at h
    split at h <;> rename_i z <;> (try (cases z; done)) <;> (try (cases h; done))
    cases z
    simp only [Bool.and_eq_true, Bool.not_eq_true'] at h
    obtain ⟨⟨⟨⟨⟨h1, h2⟩, h3⟩, h4⟩, h5⟩, h6⟩ := h
    exact SndP.mk1 k (pj_b2 k (beq_iff_eq.mp h1) h2 h3 h4 (ia _ h5).1 (id _ h6).1) (fun _ => rfl) rfl (fun _ _ _ z => by cases z)
  | isi a t ia =>
    intro e h
    unfold mtP at h
    split at h <;> rename_i z <;> (try (cases z; done)) <;> (try (cases h; done))
    cases z
    simp only [Bool.and_eq_true, Bool.not_eq_true'] at h
    obtain ⟨⟨⟨⟨⟨⟨h1, h2⟩, h3⟩, h4⟩, h5⟩, h6⟩, h7⟩ := h
    exact SndP.mk1 k (pj_isi k (beq_iff_eq.mp h1) h2 h3 (beq_iff_eq.mp h4) h5 h6 (ia _ h7).1) (fun _ => rfl) rfl (fun _ _ _ z => by cases z)
end
end DL
namespace DL
open PySem PySem.Spec L2

/-! ### a call, seen from the caller -/
mutual
/-- data that never changes -/
def D.imm : D → Bool
  | .tup xs => D.imms xs
  | .lst _ => false | .dic _ _ => false | .obj _ _ _ => false | .scr _ => false
  | _ => true
def D.imms : List D → Bool
  | [] => true
  | d :: ds => d.imm && D.imms ds
end
mutual
/-- it shares no changeable thing with anything -/
def T.sh : T → Bool
  | .fz d => d.imm
  | .lst xs => T.shs xs | .tup xs => T.shs xs | .dic _ xs => T.shs xs | .obj _ _ xs => T.shs xs
def T.shs : List T → Bool
  | [] => true
  | t :: ts => t.sh && T.shs ts
end
inductive Out where
  | ret (t : T) (fin : List (Option T))
  | exc (c : Nat) (t : T) (fin : List (Option T))
def valueN : Str := "value"
def EndOk (g : Gx) (e : Fr0) (vs : List V) (t : T) (fin : List (Option T)) (v : V) (H' S' : Hp) : Prop := Ok g e fin [([v], [t])] (vs.map some) H' S'
/-- what a def promises: it does F -/
def SpD (g : Gx) (F : List T → Option Out) : Sp := fun vs H Q E => ∃ (ts : List T) (S : Hp) (fp : List Addr) (out : Out), Same S H ∧ RepTs g S H ts vs fp ∧ (∀ a, fp.count a ≤ 1) ∧ (∀ a ∈ fp, S a = none ∧ H a ≠ none) ∧ F ts = some out ∧
  match out with
  | .ret t fin => ∀ v H' S', EndOk g ⟨H, S, fp, []⟩ vs t fin v H' S' → Q v H'
  | .exc c t fin => ∀ v dx H' S', EndOk g ⟨H, S, fp, []⟩ vs t fin v H' S' → H' dx = some (.xd [(valueN, v)]) → E (.ref (g.cls c)) (some dx) H'

section
variable {g : Gx} {H H' Hs Hs' : Hp} {e : Fr0} {ρ ρ' : Sl} {τ τ' : Tm} {σ σ' : L2.St}
/-- frozen tuples are kept -/
def KeepT (S S' : Hp) : Prop := ∀ a, (∀ xs, S a = some (.tup xs) → S' a = some (.tup xs)) ∧ ∀ o xs, S a = some (.frz o (.tup xs)) → S' a = some (.frz o (.tup xs))
theorem KeepT.sqT {K : PySem.W.Frag} {S S' : Hp} (k : KeepT S S') {a : Addr} {xs : List V} (h : SqT K S a xs) : SqT K S' a xs := by
  rcases h with (h | ⟨o, h⟩) | h
  · exact .inl (.inl ((k a).1 xs h))
  · exact .inl (.inr ⟨o, (k a).2 o xs h⟩)
  · exact .inr h
mutual
theorem Rep.immK {S S' : Hp} (k : KeepT S S') : ∀ {d : D} {v : V}, d.imm = true → Rep g S d v → Rep g S' d v
  | .non, _, _, h => h
  | .bl _, _, _, h => h
  | .int _, _, _, h => h
  | .str _, _, _, h => h
  | .tup ds, _, i, h => by
    simp only [Rep] at h ⊢
    obtain ⟨a, vs, e, q, r⟩ := h
    exact ⟨a, vs, e, k.sqT q, Reps.immK k (by simpa only [D.imm] using i) r⟩
  | .lst _, _, i, _ => by simp [D.imm] at i
  | .dic _ _, _, i, _ => by simp [D.imm] at i
  | .obj _ _ _, _, i, _ => by simp [D.imm] at i
  | .scr _, _, i, _ => by simp [D.imm] at i
theorem Reps.immK {S S' : Hp} (k : KeepT S S') : ∀ {ds : List D} {vs : List V}, D.imms ds = true → Reps g S ds vs → Reps g S' ds vs
  | [], _, _, h => h
  | d :: ds, _, i, h => by
    simp only [Reps] at h ⊢
    simp only [D.imms, Bool.and_eq_true] at i
    obtain ⟨v, vs', e, q, r⟩ := h
    exact ⟨v, vs', e, Rep.immK k i.1 q, Reps.immK k i.2 r⟩
end
mutual
theorem RepT.shK {S S' : Hp} (k : KeepT S S') : ∀ {t : T} {v : V} {fp : List Addr}, t.sh = true → RepT g S H t v fp → RepT g S' H t v fp
  | .fz d, _, _, i, h => by
    simp only [RepT] at h ⊢
    exact ⟨Rep.immK k (by simpa only [T.sh] using i) h.1, h.2⟩
  | .tup ts, _, _, i, h => by
    simp only [RepT] at h ⊢
    obtain ⟨a, vs, e, q, r⟩ := h
    exact ⟨a, vs, e, (k a).1 _ q, RepTs.shK k (by simpa only [T.sh] using i) r⟩
  | .lst ts, _, _, i, h => by
    simp only [RepT] at h ⊢
    obtain ⟨a, vs, fp', e, q, ef, r⟩ := h
    exact ⟨a, vs, fp', e, q, ef, RepTs.shK k (by simpa only [T.sh] using i) r⟩
  | .dic ks ts, _, _, i, h => by
    simp only [RepT] at h ⊢
    obtain ⟨a, vs, fp', e, q, l, ef, r⟩ := h
    exact ⟨a, vs, fp', e, q, l, ef, RepTs.shK k (by simpa only [T.sh] using i) r⟩
  | .obj c ns ts, _, _, i, h => by
    simp only [RepT] at h ⊢
    obtain ⟨a, dx, vs, fp', e, q, q', l, ef, r⟩ := h
    exact ⟨a, dx, vs, fp', e, q, q', l, ef, RepTs.shK k (by simpa only [T.sh] using i) r⟩
theorem RepTs.shK {S S' : Hp} (k : KeepT S S') : ∀ {ts : List T} {vs : List V} {fp : List Addr}, T.shs ts = true → RepTs g S H ts vs fp → RepTs g S' H ts vs fp
  | [], _, _, _, h => h
  | t :: ts, _, _, i, h => by
    simp only [RepTs] at h ⊢
    simp only [T.shs, Bool.and_eq_true] at i
    obtain ⟨v, vs', f, f', e, ef, q, r⟩ := h
    exact ⟨v, vs', f, f', e, ef, RepT.shK k i.1 q, RepTs.shK k i.2 r⟩
end
/-- the slots share nothing changeable -/
def shE : List (Option T) → Bool
  | [] => true
  | none :: r => shE r
  | some t :: r => t.sh && shE r
theorem RepE.shK {S S' : Hp} (k : KeepT S S') : ∀ {ρ : Sl} {σ : L2.St} {fp : List Addr}, shE ρ = true → RepE g S H ρ σ fp → RepE g S' H ρ σ fp
  | [], _, _, _, h => h
  | none :: ρ, _, _, i, h => by
    obtain ⟨o, σ', e, r⟩ := h
    exact ⟨o, σ', e, RepE.shK k (by simpa only [shE] using i) r⟩
  | some t :: ρ, _, _, i, h => by
    simp only [shE, Bool.and_eq_true] at i
    obtain ⟨v, σ', f, f', e, ef, q, r⟩ := h
    exact ⟨v, σ', f, f', e, ef, RepT.shK k i.1 q, RepE.shK k i.2 r⟩
/-- what is owned is no tuple -/
def NoTup (o : Option HO) : Prop := (∀ xs, o ≠ some (.tup xs)) ∧ ∀ ob xs, o ≠ some (.frz ob (.tup xs))
mutual
theorem RepT.noTup : ∀ {t : T} {v : V} {fp : List Addr}, RepT g Hs H t v fp → ∀ a ∈ fp, NoTup (H a)
  | .fz d, _, _, h, a, ha => by
    simp only [RepT] at h
    rw [h.2] at ha
    cases ha
  | .tup ts, _, _, h, a, ha => by
    simp only [RepT] at h
    obtain ⟨_, vs, e, q, r⟩ := h
    exact RepTs.noTup r a ha
  | .lst ts, _, _, h, a, ha => by
    simp only [RepT] at h
    obtain ⟨_, vs, fp', e, q, ef, r⟩ := h
    rw [ef] at ha
    rcases List.mem_cons.mp ha with rfl | ha
    · rw [q]; exact ⟨fun _ z => (by cases z), fun _ _ z => (by cases z)⟩
    · exact RepTs.noTup r a ha
  | .dic ks ts, _, _, h, a, ha => by
    simp only [RepT] at h
    obtain ⟨_, vs, fp', e, q, l, ef, r⟩ := h
    rw [ef] at ha
    rcases List.mem_cons.mp ha with rfl | ha
    · rw [q]; exact ⟨fun _ z => (by cases z), fun _ _ z => (by cases z)⟩
    · exact RepTs.noTup r a ha
  | .obj c ns ts, _, _, h, a, ha => by
    simp only [RepT] at h
    obtain ⟨_, dx, vs, fp', e, q, q', l, ef, r⟩ := h
    rw [ef] at ha
    rcases List.mem_cons.mp ha with rfl | ha
    · rw [q]; exact ⟨fun _ z => (by cases z), fun _ _ z => (by cases z)⟩
    · rcases List.mem_cons.mp ha with rfl | ha
      · rw [q']; exact ⟨fun _ z => (by cases z), fun _ _ z => (by cases z)⟩
      · exact RepTs.noTup r a ha
theorem RepTs.noTup : ∀ {ts : List T} {vs : List V} {fp : List Addr}, RepTs g Hs H ts vs fp → ∀ a ∈ fp, NoTup (H a)
  | [], _, _, h, a, ha => by
    simp only [RepTs] at h
    rw [h.2] at ha
    cases ha
  | t :: ts, _, _, h, a, ha => by
    simp only [RepTs] at h
    obtain ⟨v, vs', f, f', e, ef, q, r⟩ := h
    rw [ef] at ha
    rcases List.mem_append.mp ha with ha | ha
    · exact RepT.noTup q a ha
    · exact RepTs.noTup r a ha
end
theorem RepE.noTup : ∀ {ρ : Sl} {σ : L2.St} {fp : List Addr}, RepE g Hs H ρ σ fp → ∀ a ∈ fp, NoTup (H a)
  | [], _, _, h, a, ha => by rw [h.2] at ha; cases ha
  | none :: ρ, _, _, h, a, ha => by
    obtain ⟨o, σ', e, r⟩ := h
    exact RepE.noTup r a ha
  | some t :: ρ, _, _, h, a, ha => by
    obtain ⟨v, σ', f, f', e, ef, q, r⟩ := h
    rw [ef] at ha
    rcases List.mem_append.mp ha with ha | ha
    · exact RepT.noTup q a ha
    · exact RepE.noTup r a ha
theorem RepE.append : ∀ {ρ : Sl} {σ : L2.St} {fp : List Addr} {ρ' : Sl} {σ' : L2.St} {fp' : List Addr}, RepE g Hs H ρ σ fp → RepE g Hs H ρ' σ' fp' → RepE g Hs H (ρ ++ ρ') (σ ++ σ') (fp ++ fp')
  | [], _, _, _, _, _, h, q => by obtain ⟨rfl, rfl⟩ := h; exact q
  | none :: ρ, _, _, _, _, _, h, q => by
    obtain ⟨o, σ1, e, r⟩ := h
    subst e
    exact ⟨o, _, rfl, RepE.append r q⟩
  | some t :: ρ, _, _, _, _, _, h, q => by
    obtain ⟨v, σ1, f, f', e, ef, z, r⟩ := h
    subst e
    subst ef
    exact ⟨v, _, f, _, rfl, by rw [List.append_assoc], z, RepE.append r q⟩
theorem RepE.split : ∀ {ρ : Sl} {σ : L2.St} {ρ' : Sl} {σ' : L2.St} {fp : List Addr}, ρ.length = σ.length → RepE g Hs H (ρ ++ ρ') (σ ++ σ') fp → ∃ f, RepE g Hs H ρ σ f ∧ ∀ a, f.count a ≤ fp.count a
  | [], σ, _, _, _, l, h => by
    cases σ with
    | nil => exact ⟨[], ⟨rfl, rfl⟩, fun a => Nat.zero_le _⟩
    | cons o σ => simp at l
  | none :: ρ, σ, _, _, _, l, h => by
    cases σ with
    | nil => simp at l
    | cons o σ =>
      obtain ⟨o', σ1, e, r⟩ := h
      obtain ⟨rfl, rfl⟩ := List.cons.inj e
      obtain ⟨f, q, c⟩ := RepE.split (by simpa using l) r
      exact ⟨f, ⟨o, σ, rfl, q⟩, c⟩
  | some t :: ρ, σ, _, _, _, l, h => by
    cases σ with
    | nil => simp at l
    | cons o σ =>
      obtain ⟨v, σ1, f, f', e, ef, z, r⟩ := h
      obtain ⟨rfl, rfl⟩ := List.cons.inj e
      obtain ⟨f2, q, c⟩ := RepE.split (by simpa using l) r
      exact ⟨f ++ f2, ⟨v, σ, f, f2, rfl, rfl, z, q⟩, fun a => by rw [ef, List.count_append, List.count_append]; have := c a; omega⟩
/-- slots at the end let go -/
theorem Ok.cut {ρ2 : Sl} {σ2 : L2.St} (o : Ok g e (ρ ++ ρ2) τ (σ ++ σ2) H Hs) (l : ρ.length = σ.length) (fx : ∀ p ∈ e.P, p.1 < σ.length) : Ok g e ρ τ σ H Hs := by
  obtain ⟨fs, ft, r1, r2, c, n⟩ := o.own
  obtain ⟨f, q, c'⟩ := r1.split l
  refine ⟨o.sub, o.sub0, o.new, o.frame, o.there, fun p hp => ?_, f, ft, q, r2, fun a => ?_, fun a ha => n a ?_⟩
  · rw [← o.fix p hp, List.getElem?_append_left (fx p hp)]
  · have := c a; have := c' a; omega
  · rcases ha with ha | ha
    · have := List.count_pos_iff.mpr ha
      have := c' a
      exact .inl (List.count_pos_iff.mp (by omega))
    · exact .inr ha

/-- a call: its own arguments (vo, to) go in, nothing is lent (L = []) or all that the slots own is lent (to be read) -/
theorem Ok.call {vo : List V} {to : List T} (o : Ok g e ρ ((vo, to) :: τ) σ H Hs) (lend : Bool) : ∃ (S : Hp) (fa fl : List Addr), Same S H ∧ Same Hs S ∧ RepTs g S H to vo fa ∧ (∀ a, fa.count a ≤ 1) ∧ (∀ a ∈ fa, S a = none ∧ H a ≠ none) ∧
    (lend = true → ∃ fs, RepE g Hs H ρ σ fs ∧ ∀ a ∈ fs, S a = H a) ∧
    ∀ vs t fin v H' S', EndOk g ⟨H, S, fa, []⟩ vs t fin v H' S' → (lend = true → t.sh = true ∧ shE fin = true) → ∃ Hs', Ok g e (ρ ++ fin) (([v], [t]) :: τ) (σ ++ vs.map some) H' Hs' := by
  obtain ⟨fs, ft, r1, r2, c, n⟩ := o.own
  obtain ⟨fa, ft', ef, ra, rt⟩ := r2
  subst ef
  have nfs : ∀ a ∈ fs, a ∉ fa := fun a h1 h2 => by
    have := c a
    have := List.count_pos_iff.mpr h1
    have := List.count_pos_iff.mpr h2
    rw [List.count_append] at *
    omega
  have nft : ∀ a ∈ ft', a ∉ fa := fun a h1 h2 => by
    have := c a
    have := List.count_pos_iff.mpr h1
    have := List.count_pos_iff.mpr h2
    rw [List.count_append] at *
    omega
  have nfst : ∀ a ∈ ft', a ∉ fs := fun a h1 h2 => by
    have := c a
    have := List.count_pos_iff.mpr h1
    have := List.count_pos_iff.mpr h2
    rw [List.count_append] at *
    omega
  have hfa : ∀ a ∈ fa, Hs a = none ∧ H a ≠ none ∧ (e.H a = none ∨ a ∈ e.F) := fun a ha => n a (.inr (by simp [ha]))
  have hfs : ∀ a ∈ fs, Hs a = none ∧ H a ≠ none ∧ (e.H a = none ∨ a ∈ e.F) := fun a ha => n a (.inl ha)
  have hft : ∀ a ∈ ft', Hs a = none ∧ H a ≠ none ∧ (e.H a = none ∨ a ∈ e.F) := fun a ha => n a (.inr (by simp [ha]))
  -- the heap that is frozen while it runs
  let S : Hp := if lend = true then frzH Hs H fs else Hs
  have sS : Same Hs S := fun a u z => by
    show (if lend = true then frzH Hs H fs else Hs) a = some u
    split
    · unfold frzH
      by_cases h : a ∈ fs
      · rw [(hfs a h).1] at z; cases z
      · rw [if_neg h]; exact z
    · exact z
  have sH : Same S H := fun a u z => by
    have z' : (if lend = true then frzH Hs H fs else Hs) a = some u := z
    split at z'
    · unfold frzH at z'
      by_cases h : a ∈ fs
      · rw [if_pos h] at z'; exact z'
      · rw [if_neg h] at z'; exact o.sub a u z'
    · exact o.sub a u z'
  have Sout : ∀ a, a ∉ fs → S a = Hs a := fun a h => by
    show (if lend = true then frzH Hs H fs else Hs) a = Hs a
    split
    · unfold frzH; rw [if_neg h]
    · rfl
  refine ⟨S, fa, fs, sH, sS, RepTs.keep sS (fun _ _ => rfl) ra, fun a => ?_, fun a ha => ⟨?_, (hfa a ha).2.1⟩, fun hl => ⟨fs, r1, fun a ha => ?_⟩, fun vs t fin v H' S' en hsh => ?_⟩
  · have := c a; rw [List.count_append] at this; omega
  · rw [Sout a fun h => nfs a h ha]; exact (hfa a ha).1
  · show (if lend = true then frzH Hs H fs else Hs) a = H a
    rw [if_pos hl]; unfold frzH; rw [if_pos ha]
  · obtain ⟨gs, gt, q1, q2, c', n'⟩ := en.own
    obtain ⟨gv, g0, eg, qv, q0⟩ := q2
    have eg0 : g0 = [] := q0
    subst eg
    subst eg0
    -- what stays
    have kfs : ∀ a ∈ fs, H' a = H a := fun a ha => en.frame a (nfs a ha) (hfs a ha).2.1
    have kft : ∀ a ∈ ft', H' a = H a := fun a ha => en.frame a (nft a ha) (hft a ha).2.1
    have nS' : ∀ a ∈ ft', S' a = none := fun a ha => by
      cases q : S' a with
      | none => rfl
      | some x =>
        rcases en.new a (by rw [q]; simp) with z | z | z
        · exact absurd ((Sout a (nfst a ha)).trans (hft a ha).1) z
        · exact absurd z (hft a ha).2.1
        · exact absurd z (nft a ha)
    have ng : ∀ a, a ∈ gs ∨ a ∈ gv → a ∉ fs ∧ a ∉ ft' := fun a ha => by
      obtain ⟨h1, h2, h3⟩ := n' a (ha.imp id fun z => by simp [z])
      refine ⟨fun hb => ?_, fun hb => ?_⟩
      · rcases h3 with h3 | h3
        · exact (hfs a hb).2.1 h3
        · exact nfs a hb h3
      · rcases h3 with h3 | h3
        · exact (hft a hb).2.1 h3
        · exact nft a hb h3
    have cc : ∀ a, (fs ++ gs).count a + (gv ++ ft').count a ≤ 1 := fun a => by
      have h1 := c a
      have h2 := c' a
      simp only [List.count_append, List.append_nil] at h1 h2 ⊢
      by_cases m : a ∈ fs
      · have z1 : gs.count a = 0 := List.count_eq_zero.mpr fun y => (ng a (.inl y)).1 m
        have z2 : gv.count a = 0 := List.count_eq_zero.mpr fun y => (ng a (.inr y)).1 m
        omega
      · by_cases m' : a ∈ ft'
        · have z1 : gs.count a = 0 := List.count_eq_zero.mpr fun y => (ng a (.inl y)).2 m'
          have z2 : gv.count a = 0 := List.count_eq_zero.mpr fun y => (ng a (.inr y)).2 m'
          have z3 : fs.count a = 0 := List.count_eq_zero.mpr m
          omega
        · have z3 : fs.count a = 0 := List.count_eq_zero.mpr m
          have z4 : ft'.count a = 0 := List.count_eq_zero.mpr m'
          omega
    have old : ∀ a, e.H a ≠ none → H a ≠ none := o.there
    have fin1 : ∀ a, H' a ≠ none → a ∈ gs ∨ a ∈ gv → e.H a = none ∨ a ∈ e.F := fun a _ ha => by
      obtain ⟨h1, h2, h3⟩ := n' a (ha.imp id fun z => by simp [z])
      rcases h3 with h3 | h3
      · exact .inl (o.fresh h3)
      · exact (hfa a h3).2.2
    have frm : ∀ a, a ∉ e.F → e.H a ≠ none → H' a = e.H a := fun a h1 h2 => by
      rw [← o.frame a h1 h2]
      refine en.frame a (fun hb => ?_) (o.there a h2)
      rcases (hfa a hb).2.2 with z | z
      · exact h2 z
      · exact h1 z
    have thr : ∀ a, e.H a ≠ none → H' a ≠ none := fun a h => en.there a (o.there a h)
    have fxx : ∀ p ∈ e.P, (σ ++ vs.map some)[p.1]? = some (some p.2) := fun p hp => by
      have := o.fix p hp
      rw [List.getElem?_append_left (List.getElem?_eq_some_iff.mp this).1]
      exact this
    have newS : ∀ a, S' a ≠ none → a ∉ fs → e.S a ≠ none ∨ e.H a = none ∨ a ∈ e.F := fun a h hn => by
      rcases en.new a h with z | z | z
      · exact o.new a (by rw [← Sout a hn]; exact z)
      · exact .inr (.inl (o.fresh z))
      · exact .inr (hfa a z).2.2
    cases hl : lend with
    | false =>
      have eS : S = Hs := by show (if lend = true then frzH Hs H fs else Hs) = Hs; rw [hl]; rfl
      have sS' : Same Hs S' := fun a u z => en.sub0 a u (sS a u z)
      have fsS : ∀ a ∈ fs, S' a = none := fun a ha => by
        cases q : S' a with
        | none => rfl
        | some x =>
          rcases en.new a (by rw [q]; simp) with z | z | z
          · have z' : S a ≠ none := z
            rw [eS] at z'
            exact absurd (hfs a ha).1 z'
          · exact absurd z (hfs a ha).2.1
          · exact absurd z (nfs a ha)
      refine ⟨S', en.sub, fun a u z => sS' a u (o.sub0 a u z), fun a h => ?_, frm, thr, fxx, fs ++ gs, gv ++ ft', (r1.keep sS' kfs).append q1, ⟨gv, ft', rfl, qv, rt.keep sS' kft⟩, cc, fun a ha => ?_⟩
      · by_cases m : a ∈ fs
        · exact absurd (fsS a m) h
        · exact newS a h m
      · simp only [List.mem_append] at ha
        rcases ha with (ha | ha) | (ha | ha)
        · exact ⟨fsS a ha, by rw [kfs a ha]; exact (hfs a ha).2.1, (hfs a ha).2.2⟩
        · have z := n' a (.inl ha)
          exact ⟨z.1, z.2.1, fin1 a z.2.1 (.inl ha)⟩
        · have z := n' a (.inr (by simp [ha]))
          exact ⟨z.1, z.2.1, fin1 a z.2.1 (.inr ha)⟩
        · exact ⟨nS' a ha, by rw [kft a ha]; exact (hft a ha).2.1, (hft a ha).2.2⟩
    | true =>
      obtain ⟨sh1, sh2⟩ := hsh hl
      -- what was lent comes back
      let S2 : Hp := fun a => if a ∈ fs then none else S' a
      have kt : KeepT S' S2 := fun a => by
        by_cases m : a ∈ fs
        · have nt := r1.noTup a m
          have es : ∀ u, S' a = some u → H a = some u := fun u z => by rw [← kfs a m]; exact en.sub a u z
          exact ⟨fun xs z => absurd (es _ z) (nt.1 xs), fun ob xs z => absurd (es _ z) (nt.2 ob xs)⟩
        · exact ⟨fun xs z => by show (if a ∈ fs then none else S' a) = _; rw [if_neg m]; exact z, fun ob xs z => by show (if a ∈ fs then none else S' a) = _; rw [if_neg m]; exact z⟩
      have sS2 : Same Hs S2 := fun a u z => by
        show (if a ∈ fs then none else S' a) = some u
        by_cases m : a ∈ fs
        · rw [(hfs a m).1] at z; cases z
        · rw [if_neg m]; exact en.sub0 a u (sS a u z)
      have S2S : ∀ a, S2 a ≠ none → a ∉ fs ∧ S' a ≠ none := fun a h => by
        have h' : (if a ∈ fs then none else S' a) ≠ none := h
        by_cases m : a ∈ fs
        · rw [if_pos m] at h'; exact absurd rfl h'
        · rw [if_neg m] at h'; exact ⟨m, h'⟩
      refine ⟨S2, fun a u z => ?_, fun a u z => sS2 a u (o.sub0 a u z), fun a h => newS a (S2S a h).2 (S2S a h).1, frm, thr, fxx, fs ++ gs, gv ++ ft', (r1.keep sS2 kfs).append (q1.shK kt sh2), ⟨gv, ft', rfl, RepTs.shK kt (by simp [T.shs, sh1]) qv, rt.keep sS2 kft⟩, cc, fun a ha => ?_⟩
      · have z' : (if a ∈ fs then none else S' a) = some u := z
        by_cases m : a ∈ fs
        · rw [if_pos m] at z'; cases z'
        · rw [if_neg m] at z'; exact en.sub a u z'
      · have nn : ∀ a, S' a = none → S2 a = none := fun a h => by
          show (if a ∈ fs then none else S' a) = none
          split
          · rfl
          · exact h
        simp only [List.mem_append] at ha
        rcases ha with (ha | ha) | (ha | ha)
        · exact ⟨by show (if a ∈ fs then none else S' a) = none; rw [if_pos ha], by rw [kfs a ha]; exact (hfs a ha).2.1, (hfs a ha).2.2⟩
        · have z := n' a (.inl ha)
          exact ⟨nn a z.1, z.2.1, fin1 a z.2.1 (.inl ha)⟩
        · have z := n' a (.inr (by simp [ha]))
          exact ⟨nn a z.1, z.2.1, fin1 a z.2.1 (.inr ha)⟩
        · exact ⟨nn a (nS' a ha), by rw [kft a ha]; exact (hft a ha).2.1, (hft a ha).2.2⟩
end
end DL
namespace DL
open PySem PySem.Spec L2

/-! ### expressions that may do something: their judgement -/
inductive Rs (α : Type) where
  | ok (a : α) (ρ : Sl)
  | ex (c : Nat) (t : T) (ρ : Sl)
def bindR {α β : Type} (r : Option (Rs α)) (k : α → Sl → Option (Rs β)) : Option (Rs β) :=
  match r with
  | none => none
  | some (.ok a ρ) => k a ρ
  | some (.ex c t ρ) => some (.ex c t ρ)
def okR {α : Type} (r : Option α) (ρ : Sl) : Option (Rs α) := r.map fun a => .ok a ρ

/-- what is wanted of an exception -/
def XP (g : Gx) (W : WX) (e : Fr0) (τ : Tm) (σ : L2.St) (c : Nat) (t : T) (ρ : Sl) : Prop :=
  ∀ v dx H' Hs', Ok g e ρ (([v], [t]) :: τ) σ H' Hs' → H' dx = some (.xd [(valueN, v)]) → W (.ref (g.cls c)) (some dx) σ H'
def Post {α β : Type} (g : Gx) (W : WX) (e : Fr0) (τ : Tm) (σ : L2.St) (gr : α → β → List V × List T) (r : Option (Rs α)) (Q : β → Hp → Prop) : Prop :=
  match r with
  | none => False
  | some (.ok a ρ) => ∀ b H' Hs', Ok g e ρ (gr a b :: τ) σ H' Hs' → Q b H'
  | some (.ex c t ρ) => XP g W e τ σ c t ρ
abbrev one : T → V → List V × List T := fun t v => ([v], [t])
abbrev many : List T → List V → List V × List T := fun ts vs => (vs, ts)
def CJ (X : Cx) (g : Gx) (W : WX) (f : Sl → Option (Rs T)) (ex : Expr) : Prop :=
  ∃ te, PE X ex te ∧ ∀ e ρ τ σ H Hs (Q : VK), Ok g e ρ τ σ H Hs → Post g W e τ σ one (f ρ) Q → te σ H Q
def AJ (X : Cx) (g : Gx) (W : WX) (f : Sl → Option (Rs (List T))) (es : List Expr) : Prop :=
  ∃ ta, PA X es ta ∧ ∀ e ρ τ σ H Hs (Q : List V → Hp → Prop), Ok g e ρ τ σ H Hs → Post g W e τ σ many (f ρ) Q → ta σ H Q
/-- a test: nothing is left at hand -/
def PostB (g : Gx) (W : WX) (e : Fr0) (τ : Tm) (σ : L2.St) (r : Option (Rs Bool)) (Q : Bool → Hp → Prop) : Prop :=
  match r with
  | none => False
  | some (.ok b ρ) => ∀ H' Hs', Ok g e ρ τ σ H' Hs' → Q b H'
  | some (.ex c t ρ) => XP g W e τ σ c t ρ
def BJ (X : Cx) (g : Gx) (W : WX) (f : Sl → Option (Rs Bool)) (ex : Expr) : Prop :=
  ∃ tt, PT X ex tt ∧ ∀ e ρ τ σ H Hs (Q : Bool → Hp → Prop), Ok g e ρ τ σ H Hs → PostB g W e τ σ (f ρ) Q → tt σ H Q
def WBJ (X : Cx) (g : Gx) (W : WX) (f : Sl → Option (Rs Bool)) (ex : Expr) : Prop :=
  ∃ tt, PW X ex tt ∧ ∀ e ρ τ σ H Hs (Q : Bool → Hp → Prop), Ok g e ρ τ σ H Hs → PostB g W e τ σ (f ρ) Q → tt σ H Q

section
variable {X : Cx} {g : Gx} {c : Cxt} {W : WX} {e1 e2 e3 ex : Expr} {fa fb fd : Sl → Option (Rs T)} {pos : Pos}
theorem XP.drop {e : Fr0} {τ : Tm} {σ : L2.St} {c : Nat} {t : T} {ρ : Sl} {p : List V × List T} (h : XP g W e τ σ c t ρ) : XP g W e (p :: τ) σ c t ρ :=
  fun v dx H' Hs' o hd => h v dx H' Hs' o.swap.drop hd
theorem Post.bind {α β γ δ : Type} {e : Fr0} {τ : Tm} {σ : L2.St} {gr : α → β → List V × List T} {gr' : γ → δ → List V × List T} {r : Option (Rs γ)} {k : γ → Sl → Option (Rs α)} {Q : β → Hp → Prop} {Q1 : δ → Hp → Prop}
    (q : Post g W e τ σ gr (bindR r k) Q) (h : ∀ a ρ1, r = some (.ok a ρ1) → ∀ b H1 Hs1, Ok g e ρ1 (gr' a b :: τ) σ H1 Hs1 → Post g W e τ σ gr (k a ρ1) Q → Q1 b H1) : Post g W e τ σ gr' r Q1 := by
  cases r with
  | none => exact q
  | some r =>
    cases r with
    | ex c t ρ => exact q
    | ok a ρ1 => exact fun b H1 Hs1 o1 => h a ρ1 rfl b H1 Hs1 o1 q
theorem Post.bindD {α β γ δ : Type} {e : Fr0} {τ : Tm} {σ : L2.St} {p : List V × List T} {gr : α → β → List V × List T} {gr' : γ → δ → List V × List T} {r : Option (Rs γ)} {k : γ → Sl → Option (Rs α)} {Q : β → Hp → Prop} {Q1 : δ → Hp → Prop}
    (q : Post g W e τ σ gr (bindR r k) Q) (h : ∀ a ρ1, r = some (.ok a ρ1) → ∀ b H1 Hs1, Ok g e ρ1 (gr' a b :: p :: τ) σ H1 Hs1 → Post g W e τ σ gr (k a ρ1) Q → Q1 b H1) : Post g W e (p :: τ) σ gr' r Q1 := by
  cases r with
  | none => exact q
  | some r =>
    cases r with
    | ex c t ρ => exact XP.drop q
    | ok a ρ1 => exact fun b H1 Hs1 o1 => h a ρ1 rfl b H1 Hs1 o1 q
theorem Post.okR {α β : Type} {e : Fr0} {τ : Tm} {σ : L2.St} {gr : α → β → List V × List T} {r : Option α} {ρ : Sl} {Q : β → Hp → Prop} (q : Post g W e τ σ gr (DL.okR r ρ) Q) : ∃ a, r = some a ∧ ∀ b H' Hs', Ok g e ρ (gr a b :: τ) σ H' Hs' → Q b H' := by
  cases r with
  | none => exact q.elim
  | some a => exact ⟨a, rfl, q⟩
/-- one part, then what a rule makes of it -/
theorem cj_one {k : T → Option D} {R : V → Hp → VK → Prop} (mk : ∀ ta, PE X e1 ta → PE X ex (fun σ H Q => ta σ H fun v H1 => R v H1 Q))
    (rr : ∀ Hs H x va fx d, Same Hs H → RepT g Hs H x va fx → k x = some d → ∀ Q : VK, (∀ v, Rep g Hs d v → Q v H) → R va H Q) (ha : CJ X g W fa e1) :
    CJ X g W (fun ρ => bindR (fa ρ) fun x ρ1 => okR ((k x).map T.fz) ρ1) ex := by
  obtain ⟨ta, pa, ra⟩ := ha
  refine ⟨_, mk ta pa, fun e ρ τ σ H Hs Q o q => ?_⟩
  refine ra e ρ τ σ H Hs _ o (Post.bind q fun x ρ1 _ va H1 Hs1 o1 q1 => ?_)
  obtain ⟨t, ht, q1⟩ := q1.okR
  simp only [Option.map_eq_some_iff] at ht
  obtain ⟨d, hk, rfl⟩ := ht
  obtain ⟨fx, rx⟩ := o1.top
  exact rr Hs1 H1 x va fx d o1.sub rx hk Q fun v rv => q1 v H1 Hs1 (o1.drop.push rv)
/-- two parts, then what a rule makes of them -/
theorem cj_two {k : T → T → Option D} {R : V → V → Hp → VK → Prop} (mk : ∀ ta tb, PE X e1 ta → PE X e2 tb → PE X ex (fun σ H Q => ta σ H fun v H1 => tb σ H1 fun w H2 => R v w H2 Q))
    (rr : ∀ Hs H x y va vb fx fy d, Same Hs H → RepT g Hs H x va fx → RepT g Hs H y vb fy → k x y = some d → ∀ Q : VK, (∀ v, Rep g Hs d v → Q v H) → R va vb H Q) (ha : CJ X g W fa e1) (hb : CJ X g W fb e2) :
    CJ X g W (fun ρ => bindR (fa ρ) fun x ρ1 => bindR (fb ρ1) fun y ρ2 => okR ((k x y).map T.fz) ρ2) ex := by
  obtain ⟨ta, pa, ra⟩ := ha
  obtain ⟨tb, pb, rb⟩ := hb
  refine ⟨_, mk ta tb pa pb, fun e ρ τ σ H Hs Q o q => ?_⟩
  refine ra e ρ τ σ H Hs _ o (Post.bind q fun x ρ1 _ va H1 Hs1 o1 q1 => ?_)
  refine rb e ρ1 _ σ H1 Hs1 _ o1 (Post.bindD q1 fun y ρ2 _ vb H2 Hs2 o2 q2 => ?_)
  obtain ⟨t, ht, q2⟩ := q2.okR
  simp only [Option.map_eq_some_iff] at ht
  obtain ⟨d, hk, rfl⟩ := ht
  obtain ⟨fy, ry⟩ := o2.top
  obtain ⟨fx, rx⟩ := o2.swap.top
  exact rr Hs2 H2 x y va vb fx fy d o2.sub rx ry hk Q fun v rv => q2 v H2 Hs2 (o2.drop.drop.push rv)
/-- what is kept of a pure expression: a frozen thing -/
theorem cj_p {p : P} (h : PJ X g (evP p) ex) : CJ X g W (fun ρ => match evP p ρ with | some (.fz d) => some (.ok (.fz d) ρ) | _ => none) ex := by
  obtain ⟨te, pe, r⟩ := h
  refine ⟨te, pe, fun e ρ τ σ H Hs Q o q => ?_⟩
  dsimp only at q
  cases h : evP p ρ with
  | none => rw [h] at q; exact q.elim
  | some t =>
    rw [h] at q
    cases t with
    | fz d =>
      obtain ⟨O, vw⟩ := o.view
      refine r ρ σ H Hs O _ vw h Q fun v fp rv => q v H Hs (o.push ?_)
      have rv := rv.r
      simp only [RepT] at rv
      exact rv.1
    | _ => exact q.elim
theorem bj_p {p : P} (h : TJ X g (evT p) ex) : BJ X g W (fun ρ => okR (evT p ρ) ρ) ex := by
  obtain ⟨te, pe, r⟩ := h
  refine ⟨te, pe, fun e ρ τ σ H Hs Q o q => ?_⟩
  dsimp only at q
  cases h : evT p ρ with
  | none => rw [h] at q; exact q.elim
  | some b =>
    rw [h] at q
    obtain ⟨O, vw⟩ := o.view
    exact r ρ σ H Hs O b vw h Q (q H Hs o)
/-- the result is frozen -/
theorem cj_fz (ha : CJ X g W fa ex) : CJ X g W (fun ρ => bindR (fa ρ) fun x ρ1 => some (.ok (.fz x.d) ρ1)) ex := by
  obtain ⟨ta, pa, ra⟩ := ha
  refine ⟨ta, pa, fun e ρ τ σ H Hs Q o q => ?_⟩
  refine ra e ρ τ σ H Hs _ o (Post.bind q fun x ρ1 _ va H1 Hs1 o1 q1 => ?_)
  obtain ⟨Hs2, _, o2⟩ := o1.freeze
  exact q1 va H1 Hs2 o2
/-- a name that is read for good: what it owns is frozen -/
theorem cj_fzs (k : Cp X g c) {i : Nat} {x : Str} (h1 : c.N[i]? = some x) (h2 : visB c x = true) : CJ X g W (fun ρ => match ρ[i]? with | some (some t) => some (.ok (.fz t.d) (ρ.set i (some (.fz t.d)))) | _ => none) (.Name x pos) := by
  obtain ⟨v1, v2, v3⟩ := k.vis h2
  refine ⟨_, pe_var (i := i) (by rw [k.N]; exact h1) v1 v2 v3, fun e ρ τ σ H Hs Q o q => ?_⟩
  dsimp only at q
  cases h : ρ[i]? with
  | none => rw [h] at q; exact q.elim
  | some w =>
    rw [h] at q
    cases w with
    | none => exact q.elim
    | some t =>
      obtain ⟨v, hv, o1⟩ := o.take h
      obtain ⟨Hs2, _, o2⟩ := o1.freeze
      obtain ⟨fp, rt⟩ := o2.top
      simp only [RepT] at rt
      have o3 := (o2.push rt.1).swap.back (i := i) hv
      rw [List.set_set] at o3
      exact ⟨v, hv, q v H Hs2 o3⟩
/-- a name that is read for the last time: what it owns goes on -/
theorem cj_mv (k : Cp X g c) {i : Nat} {x : Str} (h1 : c.N[i]? = some x) (h2 : visB c x = true) : CJ X g W (fun ρ => match ρ[i]? with | some (some t) => some (.ok t (ρ.set i none)) | _ => none) (.Name x pos) := by
  obtain ⟨v1, v2, v3⟩ := k.vis h2
  refine ⟨_, pe_var (i := i) (by rw [k.N]; exact h1) v1 v2 v3, fun e ρ τ σ H Hs Q o q => ?_⟩
  dsimp only at q
  cases h : ρ[i]? with
  | none => rw [h] at q; exact q.elim
  | some w =>
    rw [h] at q
    cases w with
    | none => exact q.elim
    | some t =>
      obtain ⟨v, hv, o1⟩ := o.take h
      exact ⟨v, hv, q v H Hs o1⟩
theorem cj_bin (k : Cp X g c) {o : O2} {op : Operator} (ho : o.bin = some op) (ha : CJ X g W fa e1) (hb : CJ X g W fb e2) :
    CJ X g W (fun ρ => bindR (fa ρ) fun x ρ1 => bindR (fb ρ1) fun y ρ2 => okR ((o2 o x.d y.d).map T.fz) ρ2) (.BinOp e1 op e2 pos) := by
  obtain ⟨r, hr, rr⟩ := opD (X := X) k.hk (by have := k.hu; omega) o
  have hf : o.f = binaryOp op := by unfold O2.f; rw [ho]
  rw [hf] at hr
  refine cj_two (k := fun x y => o2 o x.d y.d) (R := r) (fun ta tb pa pb => pe_op hr pa pb) (fun Hs H x y va vb fx fy d s rx ry hk Q q => ?_) ha hb
  obtain ⟨h1, h2⟩ := rr H x.d y.d va vb d (rx.now s) (ry.now s) hk
  exact h2 Q (q _ (Rep.at h1))
theorem cj_cmp (k : Cp X g c) {o : O2} {op : CmpOp} (hn : o.bin = none) (ho : o.cmp = some op) (hs : setB e2 = false) (ha : CJ X g W fa e1) (hb : CJ X g W fb e2) :
    CJ X g W (fun ρ => bindR (fa ρ) fun x ρ1 => bindR (fb ρ1) fun y ρ2 => okR ((o2 o x.d y.d).map T.fz) ρ2) (.Compare e1 [op] [e2] pos) := by
  obtain ⟨r, hr, rr⟩ := opD (X := X) k.hk (by have := k.hu; omega) o
  have hf : o.f = compareOp op := by unfold O2.f; rw [hn, ho]; rfl
  rw [hf] at hr
  refine cj_two (k := fun x y => o2 o x.d y.d) (R := r) (fun ta tb pa pb => pe_cmpR hr pa pb (noMark hs)) (fun Hs H x y va vb fx fy d s rx ry hk Q q => ?_) ha hb
  obtain ⟨h1, h2⟩ := rr H x.d y.d va vb d (rx.now s) (ry.now s) hk
  exact h2 Q (q _ (Rep.at h1))
def negD : D → Option D
  | .int i => some (.int (-i))
  | _ => none
theorem cj_neg (ha : CJ X g W fa e1) : CJ X g W (fun ρ => bindR (fa ρ) fun x ρ1 => okR ((negD x.d).map T.fz) ρ1) (.UnaryOp .USub e1 pos) :=
  cj_one (k := fun x => negD x.d) (R := rU fun i => .int (-i)) (fun ta pa => pe_un un_neg pa) (fun Hs H x va fx d s rx hk Q q => by
    have r := rx.now s
    cases hd : x.d <;> rw [hd] at hk r <;> simp only [negD, reduceCtorEq] at hk
    cases hk
    simp only [Rep] at r
    exact ⟨_, r, q _ (by simp only [Rep])⟩) ha
theorem cj_not (k : Cp X g c) (ha : CJ X g W fa e1) : CJ X g W (fun ρ => bindR (fa ρ) fun x ρ1 => okR ((x.d.tru.map fun b => D.bl (!b)).map T.fz) ρ1) (.UnaryOp .Not e1 pos) :=
  cj_one (k := fun x => x.d.tru.map fun b => D.bl (!b)) (R := fun v H Q => ∃ k, TruV X.K v H k ∧ Q (.bl (!k)) H) (fun ta pa => pe_notT pa) (fun Hs H x va fx d s rx hk Q q => by
    simp only [Option.map_eq_some_iff] at hk
    obtain ⟨b, hb, rfl⟩ := hk
    exact ⟨b, truD k.hk (rx.now s) hb, q _ (by simp only [Rep])⟩) ha
def fzD : T → Option D
  | .fz d => some d
  | _ => none
theorem cj_ix (k : Cp X g c) (hs : slB e2 = false) (ha : CJ X g W fa e1) (hb : CJ X g W fb e2) :
    CJ X g W (fun ρ => bindR (fa ρ) fun x ρ1 => bindR (fb ρ1) fun y ρ2 => okR (((ixT x y.d).bind fzD).map T.fz) ρ2) (.Subscript e1 e2 pos) := by
  obtain ⟨r, hr, rr⟩ := ixD (X := X) k.hk (by have := k.hu; omega)
  refine cj_two (k := fun x y => (ixT x y.d).bind fzD) (R := r) (fun ta tb pa pb => pe_ix hr pa pb (plainIx hs)) (fun Hs H x y va vb fx fy d s rx ry hk Q q => ?_) ha hb
  simp only [Option.bind_eq_some_iff] at hk
  obtain ⟨w, hw, hd⟩ := hk
  cases w <;> simp only [fzD, reduceCtorEq] at hd
  cases hd
  refine rr Hs H x y.d _ va vb fx s rx (ry.now s) hw Q fun v fp rv _ => q v ?_
  simp only [RepT] at rv
  exact rv.1
theorem cj_b1 (k : Cp X g c) {b : B1} {f : Str} {p : Pos} (hf : f = b.nm) (hg : glB c f = true) (hs : starB e1 = false) (ha : CJ X g W fa e1) :
    CJ X g W (fun ρ => bindR (fa ρ) fun x ρ1 => okR ((b1D b x.d).map T.fz) ρ1) (.Call (.Name f p) [e1] [] pos) := by
  obtain ⟨r, hr, rr⟩ := b1R (X := X) k.hk b
  refine cj_one (k := fun x => b1D b x.d) (R := fun v H Q => r [v] H Q) (fun ta pa => ?_) (fun Hs H x va fx d s rx hk Q q => ?_) ha
  · subst hf
    cases b
    · exact pe_callB hr (k.gl hg) (k.bn _ (by decide)) PySem.boot_len (pa_one pa hs) (by decide) (by decide) (star_cons hs) (by rfl)
    · exact pe_callTy hr (k.gl hg) (k.bn _ (by decide)) (by decide +kernel) (pa_one pa hs) (by decide) (by decide) (star_cons hs) (by rfl)
    · exact pe_callB hr (k.gl hg) (k.bn _ (by decide)) (by decide +kernel) (pa_one pa hs) (by decide) (by decide) (star_cons hs) (by rfl)
  · obtain ⟨h1, h2⟩ := rr H x.d va d (rx.now s) hk
    exact h2 Q (q _ (Rep.at h1))
theorem cj_b2 (k : Cp X g c) {b : B2} {f : Str} {p : Pos} (hf : f = b.nm) (hg : glB c f = true) (hs : starB e1 = false) (hs' : starB e2 = false) (ha : CJ X g W fa e1) (hb : CJ X g W fb e2) :
    CJ X g W (fun ρ => bindR (fa ρ) fun x ρ1 => bindR (fb ρ1) fun y ρ2 => okR ((b2D b x.d y.d).map T.fz) ρ2) (.Call (.Name f p) [e1, e2] [] pos) := by
  obtain ⟨r, hr, rr⟩ := b2R (X := X) (g := g) k.calm b
  refine cj_two (k := fun x y => b2D b x.d y.d) (R := fun v w H Q => r [v, w] H Q) (fun ta tb pa pb => ?_) (fun Hs H x y va vb fx fy d s rx ry hk Q q => ?_) ha hb
  · subst hf
    cases b
    · exact pe_callB hr (k.gl hg) (k.bn _ (by decide)) (by decide +kernel) (pa_two pa pb hs hs') (by decide) (by decide) (star_cons hs) (star_none fun x hx => by simp at hx; subst hx; exact hs')
    · exact pe_callB hr (k.gl hg) (k.bn _ (by decide)) (by decide +kernel) (pa_two pa pb hs hs') (by decide) (by decide) (star_cons hs) (star_none fun x hx => by simp at hx; subst hx; exact hs')
  · obtain ⟨h1, h2⟩ := rr H x.d y.d va vb d (rx.now s) (ry.now s) hk
    exact h2 Q (q _ (Rep.at h1))
/-- argument lists -/
theorem aj_nil : AJ X g W (fun ρ => some (.ok [] ρ)) [] :=
  ⟨_, pa_nil, fun e ρ τ σ H Hs Q o q => q [] H Hs o.nilG⟩
theorem aj_cons {es : List Expr} {fr : Sl → Option (Rs (List T))} (hs : starB e1 = false) (ha : CJ X g W fa e1) (hr : AJ X g W fr es) :
    AJ X g W (fun ρ => bindR (fa ρ) fun x ρ1 => bindR (fr ρ1) fun xs ρ2 => some (.ok (x :: xs) ρ2)) (e1 :: es) := by
  obtain ⟨ta, pa, ra⟩ := ha
  obtain ⟨tb, pb, rb⟩ := hr
  refine ⟨_, pa_cons pa pb (star_cons hs), fun e ρ τ σ H Hs Q o q => ?_⟩
  refine ra e ρ τ σ H Hs _ o (Post.bind q fun x ρ1 _ va H1 Hs1 o1 q1 => ?_)
  exact rb e ρ1 _ σ H1 Hs1 _ o1 (Post.bindD q1 fun xs ρ2 _ vs H2 Hs2 o2 q2 => q2 (va :: vs) H2 Hs2 o2.merge)
end
end DL
namespace DL
open PySem PySem.Spec L2

section
variable {g : Gx} {H Hs : Hp}
mutual
theorem RepT.det : ∀ {t : T} {v : V} {f f' : List Addr}, RepT g Hs H t v f → RepT g Hs H t v f' → f = f'
  | .fz d, _, _, _, h, q => by
    simp only [RepT] at h q
    rw [h.2, q.2]
  | .tup ts, _, _, _, h, q => by
    simp only [RepT] at h q
    obtain ⟨a, vs, rfl, h1, r⟩ := h
    obtain ⟨a', vs', e, h2, r'⟩ := q
    cases e
    rw [h1] at h2
    cases h2
    exact RepTs.det r r'
  | .lst ts, _, _, _, h, q => by
    simp only [RepT] at h q
    obtain ⟨a, vs, f1, rfl, h1, rfl, r⟩ := h
    obtain ⟨a', vs', f2, e, h2, rfl, r'⟩ := q
    cases e
    rw [h1] at h2
    cases h2
    rw [RepTs.det r r']
  | .dic ks ts, _, _, _, h, q => by
    simp only [RepT] at h q
    obtain ⟨a, vs, f1, rfl, h1, l, rfl, r⟩ := h
    obtain ⟨a', vs', f2, e, h2, l', rfl, r'⟩ := q
    cases e
    rw [h1] at h2
    have h3 := Option.some.inj h2
    injection h3 with h3
    have e2 : vs = vs' := by
      have := congrArg (List.map Prod.snd) h3
      rwa [List.map_snd_zip (by omega), List.map_snd_zip (by omega)] at this
    subst e2
    rw [RepTs.det r r']
  | .obj c ns ts, _, _, _, h, q => by
    simp only [RepT] at h q
    obtain ⟨a, dx, vs, f1, rfl, h1, _, l, rfl, r⟩ := h
    obtain ⟨a', dx', vs', f2, e, h2, _, l', rfl, r'⟩ := q
    cases e
    rw [h1] at h2
    have h3 := Option.some.inj h2
    injection h3 with h4 h5 h3
    subst h5
    have e2 : vs = vs' := by
      have := congrArg (List.map Prod.snd) h3
      rwa [List.map_snd_zip (by omega), List.map_snd_zip (by omega)] at this
    subst e2
    rw [RepTs.det r r']
theorem RepTs.det : ∀ {ts : List T} {vs : List V} {f f' : List Addr}, RepTs g Hs H ts vs f → RepTs g Hs H ts vs f' → f = f'
  | [], _, _, _, h, q => by
    simp only [RepTs] at h q
    rw [h.2, q.2]
  | t :: ts, _, _, _, h, q => by
    simp only [RepTs] at h q
    obtain ⟨v, vs', f1, f2, rfl, rfl, z, r⟩ := h
    obtain ⟨v', vs'', f3, f4, e, rfl, z', r'⟩ := q
    obtain ⟨rfl, rfl⟩ := List.cons.inj e
    rw [RepT.det z z', RepTs.det r r']
end
theorem RepE.det : ∀ {ρ : Sl} {σ : L2.St} {f f' : List Addr}, RepE g Hs H ρ σ f → RepE g Hs H ρ σ f' → f = f'
  | [], _, _, _, h, q => by rw [h.2, q.2]
  | none :: ρ, _, _, _, h, q => by
    obtain ⟨o, σ1, rfl, r⟩ := h
    obtain ⟨o', σ2, e, r'⟩ := q
    obtain ⟨rfl, rfl⟩ := List.cons.inj e
    exact RepE.det r r'
  | some t :: ρ, _, _, _, h, q => by
    obtain ⟨v, σ1, f1, f2, rfl, rfl, z, r⟩ := h
    obtain ⟨v', σ2, f3, f4, e, rfl, z', r'⟩ := q
    obtain ⟨e1, rfl⟩ := List.cons.inj e
    cases e1
    rw [RepT.det z z', RepE.det r r']
end

/-! ### what a call is given: own things, things to be read, slots that are lent to be changed -/
inductive AV where
  | own (t : T) | bor (t : T) | io (i : Nat)
/-- vs: all; vo, to: the own ones -/
def ARel (g : Gx) (Hs H : Hp) (ρ : Sl) (σ : L2.St) : List AV → List V → List V → List T → Prop
  | [], vs, vo, to => vs = [] ∧ vo = [] ∧ to = []
  | .own t :: r, vs, vo, to => ∃ v vs' vo' to', vs = v :: vs' ∧ vo = v :: vo' ∧ to = t :: to' ∧ ARel g Hs H ρ σ r vs' vo' to'
  | .bor t :: r, vs, vo, to => ∃ v vs', vs = v :: vs' ∧ (∃ f, RepT g Hs H t v f ∧ (f = [] ∨ ∃ fs, RepE g Hs H ρ σ fs ∧ ∀ a ∈ f, a ∈ fs)) ∧ ARel g Hs H ρ σ r vs' vo to
  | .io i :: r, vs, vo, to => ∃ v vs', vs = v :: vs' ∧ σ[i]? = some (some v) ∧ ARel g Hs H ρ σ r vs' vo to
def isFz : T → Bool
  | .fz _ => true
  | _ => false
def lendA : List AV → Bool
  | [] => false
  | .bor t :: r => !isFz t || lendA r
  | _ :: r => lendA r
def takeA : List AV → Sl → Option (List T × Sl)
  | [], ρ => some ([], ρ)
  | .own t :: r, ρ => (takeA r ρ).map fun p => (t :: p.1, p.2)
  | .bor t :: r, ρ => (takeA r ρ).map fun p => (.fz t.d :: p.1, p.2)
  | .io i :: r, ρ => match ρ[i]? with
    | some (some t) => (takeA r (ρ.set i none)).map fun p => (t :: p.1, p.2)
    | _ => none
def putA : List AV → List (Option T) → Sl → Option Sl
  | [], _, ρ => some ρ
  | .io i :: r, some t :: fin, ρ => putA r fin (ρ.set i (some t))
  | .io _ :: _, _, _ => none
  | _ :: r, _ :: fin, ρ => putA r fin ρ
  | _ :: _, [], _ => none
def ioA : List AV → Bool
  | [] => false
  | .io _ :: _ => true
  | _ :: r => ioA r
theorem takeA_noIo : ∀ {avs : List AV} {ρ ρ' : Sl} {ts : List T}, ioA avs = false → takeA avs ρ = some (ts, ρ') → ρ' = ρ
  | [], _, _, _, _, h => by cases h; rfl
  | .own t :: r, _, _, _, i, h => by
    simp only [takeA, Option.map_eq_some_iff] at h
    obtain ⟨⟨ts1, ρ1⟩, h, e⟩ := h
    cases e
    exact takeA_noIo (avs := r) (by simpa only [ioA] using i) h
  | .bor t :: r, _, _, _, i, h => by
    simp only [takeA, Option.map_eq_some_iff] at h
    obtain ⟨⟨ts1, ρ1⟩, h, e⟩ := h
    cases e
    exact takeA_noIo (avs := r) (by simpa only [ioA] using i) h
  | .io _ :: r, _, _, _, i, _ => by cases i
/-- what is lent comes back whole -/
def retOk (avs : List AV) (t : T) (fin : List (Option T)) : Bool := !lendA avs || (!ioA avs && t.sh && shE fin)
def callD (F : List T → Option Out) (avs : List AV) (ρ : Sl) : Option (Rs T) :=
  (takeA avs ρ).bind fun p => (F p.1).bind fun out => match out with
    | .ret t fin => if retOk avs t fin = true then (putA avs fin p.2).map (.ok t ·) else none
    | .exc c t fin => if retOk avs t fin = true then (putA avs fin p.2).map (.ex c t ·) else none

section
variable {g : Gx} {H H' Hs Hs' : Hp} {e : Fr0} {ρ ρ' : Sl} {τ : Tm} {σ : L2.St}
/-- the lent slots are taken out: their trees as a group (vi, ti) -/
theorem takeA_ok : ∀ {avs : List AV} {vs vo : List V} {to ts : List T} {ρ ρ' : Sl} {τ : Tm}, ARel g Hs H ρ0 σ avs vs vo to → Ok g e ρ τ σ H Hs → takeA avs ρ = some (ts, ρ') →
    ∃ vi ti, Ok g e ρ' ((vi, ti) :: τ) σ H Hs ∧ ρ'.length = ρ.length ∧
      ∀ (S : Hp) (fo fi : List Addr), RepTs g S H to vo fo → RepTs g S H ti vi fi → (∀ t v f, RepT g Hs H t v f → (f = [] ∨ ∃ fs, RepE g Hs H ρ0 σ fs ∧ ∀ a ∈ f, a ∈ fs) → (lendA avs = false → isFz t = true) → Rep g S t.d v) → ∃ fp, RepTs g S H ts vs fp ∧ ∀ a, fp.count a = fo.count a + fi.count a
  | [], vs, vo, to, ts, ρ, ρ', τ, ar, o, h => by
    obtain ⟨rfl, rfl, rfl⟩ := ar
    cases h
    refine ⟨[], [], o.nilG, rfl, fun S fo fi r1 r2 _ => ?_⟩
    simp only [RepTs] at r1 r2
    obtain ⟨_, rfl⟩ := r1
    obtain ⟨_, rfl⟩ := r2
    exact ⟨[], by simp only [RepTs]; exact ⟨trivial, trivial⟩, fun a => rfl⟩
  | .own t :: r, vs, vo, to, ts, ρ, ρ', τ, ar, o, h => by
    obtain ⟨v, vs', vo', to', rfl, rfl, rfl, ar⟩ := ar
    simp only [takeA, Option.map_eq_some_iff] at h
    obtain ⟨⟨ts1, ρ1⟩, h, e⟩ := h
    cases e
    obtain ⟨vi, ti, o1, hl, k⟩ := takeA_ok ar o h
    refine ⟨vi, ti, o1, hl, fun S fo fi r1 r2 hb => ?_⟩
    simp only [RepTs] at r1
    obtain ⟨v1, vs1, f1, f2, e1, rfl, q1, r1⟩ := r1
    obtain ⟨rfl, rfl⟩ := List.cons.inj e1
    obtain ⟨fp, q, c⟩ := k S f2 fi r1 r2 hb
    exact ⟨f1 ++ fp, by simp only [RepTs]; exact ⟨_, _, f1, fp, rfl, rfl, q1, q⟩, fun a => by simp only [List.count_append, c a]; omega⟩
  | .bor t :: r, vs, vo, to, ts, ρ, ρ', τ, ar, o, h => by
    obtain ⟨v, vs', rfl, ⟨f, rf, hf⟩, ar⟩ := ar
    simp only [takeA, Option.map_eq_some_iff] at h
    obtain ⟨⟨ts1, ρ1⟩, h, e⟩ := h
    cases e
    obtain ⟨vi, ti, o1, hl, k⟩ := takeA_ok ar o h
    refine ⟨vi, ti, o1, hl, fun S fo fi r1 r2 hb => ?_⟩
    have hb' : lendA (.bor t :: r) = false → isFz t = true ∧ lendA r = false := fun z => by
      simp only [lendA, Bool.or_eq_false_iff, Bool.not_eq_false'] at z
      exact z
    have q1 : RepT g S H (.fz t.d) v [] := by
      simp only [RepT]
      exact ⟨hb t v f rf hf fun z => (hb' z).1, trivial⟩
    obtain ⟨fp, q, c⟩ := k S fo fi r1 r2 fun t' v' f' a1 a2 a3 => by
      by_cases z : lendA r = false
      · exact hb t' v' f' a1 a2 fun _ => a3 z
      · exact hb t' v' f' a1 a2 fun y => absurd (hb' y).2 z
    exact ⟨[] ++ fp, by simp only [RepTs]; exact ⟨_, _, [], fp, rfl, rfl, q1, q⟩, fun a => by simpa using c a⟩
  | .io i :: r, vs, vo, to, ts, ρ, ρ', τ, ar, o, h => by
    obtain ⟨v, vs', rfl, hv, ar⟩ := ar
    simp only [takeA] at h
    split at h
    · rename_i t ht
      simp only [Option.map_eq_some_iff] at h
      obtain ⟨⟨ts1, ρ1⟩, h, e⟩ := h
      cases e
      obtain ⟨v2, hv2, o1⟩ := o.take ht
      rw [hv] at hv2
      cases hv2
      obtain ⟨vi, ti, o2, hl, k⟩ := takeA_ok ar o1 h
      refine ⟨v :: vi, t :: ti, o2.merge, by simpa using hl, fun S fo fi r1 r2 hb => ?_⟩
      simp only [RepTs] at r2
      obtain ⟨v1, vs1, f1, f2, e1, rfl, q1, r2⟩ := r2
      obtain ⟨rfl, rfl⟩ := List.cons.inj e1
      obtain ⟨fp, q, c⟩ := k S fo f2 r1 r2 hb
      exact ⟨f1 ++ fp, by simp only [RepTs]; exact ⟨_, _, f1, fp, rfl, rfl, q1, q⟩, fun a => by simp only [List.count_append, c a]; omega⟩
    · cases h
theorem RepE.mid : ∀ {ρ : Sl} {σ : L2.St} {x : Option T} {y : Option V} {r : Sl} {s : L2.St} {fp : List Addr}, ρ.length = σ.length → RepE g Hs H (ρ ++ x :: r) (σ ++ y :: s) fp →
    ∃ f f', (∀ t, x = some t → ∃ v, y = some v ∧ RepT g Hs H t v f) ∧ RepE g Hs H (ρ ++ r) (σ ++ s) f' ∧ ∀ a, f.count a + f'.count a ≤ fp.count a
  | [], σ, x, y, r, s, fp, l, h => by
    cases σ with
    | cons o σ => simp at l
    | nil =>
      cases x with
      | none =>
        obtain ⟨o, σ1, e, q⟩ := h
        obtain ⟨rfl, rfl⟩ := List.cons.inj e
        exact ⟨[], fp, fun _ z => (by cases z), q, fun a => by simp⟩
      | some t =>
        obtain ⟨v, σ1, f, f', e, rfl, z, q⟩ := h
        obtain ⟨rfl, rfl⟩ := List.cons.inj e
        exact ⟨f, f', fun _ z' => (by cases z'; exact ⟨v, rfl, z⟩), q, fun a => by rw [List.count_append]; omega⟩
  | none :: ρ, σ, x, y, r, s, fp, l, h => by
    cases σ with
    | nil => simp at l
    | cons o σ =>
      obtain ⟨o', σ1, e, q⟩ := h
      obtain ⟨rfl, rfl⟩ := List.cons.inj e
      obtain ⟨f, f', h1, h2, h3⟩ := RepE.mid (by simpa using l) q
      exact ⟨f, f', h1, ⟨_, _, rfl, h2⟩, h3⟩
  | some t :: ρ, σ, x, y, r, s, fp, l, h => by
    cases σ with
    | nil => simp at l
    | cons o σ =>
      obtain ⟨v, σ1, f0, f1, e, rfl, z, q⟩ := h
      obtain ⟨rfl, rfl⟩ := List.cons.inj e
      obtain ⟨f, f', h1, h2, h3⟩ := RepE.mid (by simpa using l) q
      exact ⟨f, f0 ++ f', h1, ⟨v, _, f0, f', rfl, rfl, z, h2⟩, fun a => by rw [List.count_append, List.count_append]; have := h3 a; omega⟩
/-- the slot at the seam goes, or comes to hand -/
theorem Ok.mid {x : Option T} {y : Option V} {r : Sl} {s : L2.St} (o : Ok g e (ρ ++ x :: r) τ (σ ++ y :: s) H Hs) (l : ρ.length = σ.length) (fx : ∀ p ∈ e.P, p.1 < σ.length) :
    Ok g e (ρ ++ r) τ (σ ++ s) H Hs ∧ ∀ t, x = some t → ∃ v, y = some v ∧ Ok g e (ρ ++ r) (([v], [t]) :: τ) (σ ++ s) H Hs := by
  obtain ⟨fs, ft, r1, r2, c, n⟩ := o.own
  obtain ⟨f, f', h1, h2, h3⟩ := r1.mid l
  have fix' : ∀ p ∈ e.P, (σ ++ s)[p.1]? = some (some p.2) := fun p hp => by
    have := o.fix p hp
    rw [List.getElem?_append_left (fx p hp)] at this ⊢
    exact this
  have mem : ∀ a, a ∈ f ∨ a ∈ f' → a ∈ fs := fun a ha => by
    have := h3 a
    rcases ha with ha | ha
    · have := List.count_pos_iff.mpr ha
      exact List.count_pos_iff.mp (by omega)
    · have := List.count_pos_iff.mpr ha
      exact List.count_pos_iff.mp (by omega)
  refine ⟨⟨o.sub, o.sub0, o.new, o.frame, o.there, fix', f', ft, h2, r2, fun a => by have := c a; have := h3 a; omega, fun a ha => n a (ha.imp (fun z => mem a (.inr z)) id)⟩, fun t ht => ?_⟩
  obtain ⟨v, hv, rt⟩ := h1 t ht
  refine ⟨v, hv, o.sub, o.sub0, o.new, o.frame, o.there, fix', f', f ++ ft, h2, ⟨f, ft, rfl, RepTs.one.mpr rt, r2⟩, fun a => by have := c a; have := h3 a; rw [List.count_append]; omega, fun a ha => n a ?_⟩
  simp only [List.mem_append] at ha
  rcases ha with ha | ha | ha
  · exact .inl (mem a (.inr ha))
  · exact .inl (mem a (.inl ha))
  · exact .inr ha
theorem putA_ok : ∀ {avs : List AV} {fin : List (Option T)} {ρ ρ' : Sl} {vs vo : List V} {to : List T}, ARel g Hs0 H0 ρ0 σ avs vs vo to → (fx : ∀ p ∈ e.P, p.1 < σ.length) → ρ.length = σ.length → Ok g e (ρ ++ fin) τ (σ ++ vs.map some) H Hs → putA avs fin ρ = some ρ' → Ok g e ρ' τ σ H Hs
  | [], fin, ρ, ρ', vs, vo, to, ar, fx, l, o, h => by
    cases h
    exact o.cut l fx
  | .own t :: r, [], ρ, ρ', vs, vo, to, ar, fx, l, o, h => by cases h
  | .bor t :: r, [], ρ, ρ', vs, vo, to, ar, fx, l, o, h => by cases h
  | .io i :: r, [], ρ, ρ', vs, vo, to, ar, fx, l, o, h => by cases h
  | .own t :: r, x :: fin, ρ, ρ', vs, vo, to, ar, fx, l, o, h => by
    obtain ⟨v, vs', vo', to', rfl, rfl, rfl, ar⟩ := ar
    exact putA_ok ar fx l (o.mid l fx).1 (by simpa only [putA] using h)
  | .bor t :: r, x :: fin, ρ, ρ', vs, vo, to, ar, fx, l, o, h => by
    obtain ⟨v, vs', rfl, _, ar⟩ := ar
    exact putA_ok ar fx l (o.mid l fx).1 (by simpa only [putA] using h)
  | .io i :: r, none :: fin, ρ, ρ', vs, vo, to, ar, fx, l, o, h => by cases h
  | .io i :: r, some t :: fin, ρ, ρ', vs, vo, to, ar, fx, l, o, h => by
    obtain ⟨v, vs', rfl, hv, ar⟩ := ar
    obtain ⟨v2, hv2, o2⟩ := (o.mid l fx).2 t rfl
    cases hv2
    have hi : i < σ.length := (List.getElem?_eq_some_iff.mp hv).1
    have o3 := o2.back (i := i) (by rw [List.getElem?_append_left hi]; exact hv)
    rw [List.set_append_left _ _ (by omega)] at o3
    exact putA_ok ar fx (by simpa using l) o3 (by simpa only [putA] using h)
end
end DL
namespace DL
open PySem PySem.Spec L2

/-! ### what a call is given, as it is reckoned -/
def ArgsOk (g : Gx) (e : Fr0) (τ : Tm) (σ : L2.St) (avs : List AV) (ρ : Sl) (vs : List V) (H Hs : Hp) : Prop := ∃ vo to, Ok g e ρ ((vo, to) :: τ) σ H Hs ∧ ARel g Hs H ρ σ avs vs vo to
def PostV (g : Gx) (W : WX) (e : Fr0) (τ : Tm) (σ : L2.St) (r : Option (Rs (List AV))) (Q : List V → Hp → Prop) : Prop :=
  match r with
  | none => False
  | some (.ok avs ρ) => ∀ vs H' Hs', ArgsOk g e τ σ avs ρ vs H' Hs' → Q vs H'
  | some (.ex c t ρ) => XP g W e τ σ c t ρ
def VJ (X : Cx) (g : Gx) (W : WX) (f : Sl → Option (Rs (List AV))) (es : List Expr) : Prop :=
  ∃ ta, PA X es ta ∧ ∀ e ρ τ σ H Hs (Q : List V → Hp → Prop), Ok g e ρ τ σ H Hs → PostV g W e τ σ (f ρ) Q → ta σ H Q
/-- nothing happens while they are reckoned -/
def VqJ (X : Cx) (g : Gx) (f : Sl → Option (List AV)) (es : List Expr) : Prop :=
  ∃ ta, PA X es ta ∧ ∀ e ρ τ σ H Hs avs (Q : List V → Hp → Prop), Ok g e ρ τ σ H Hs → f ρ = some avs → (∀ vs, ARel g Hs H ρ σ avs vs [] [] → Q vs H) → ta σ H Q

section
variable {X : Cx} {g : Gx} {c : Cxt} {W : WX} {e1 e2 e3 ex : Expr} {es : List Expr} {fa fb fd : Sl → Option (Rs T)} {pos : Pos}
theorem vqj_nil : VqJ X g (fun _ => some []) [] :=
  ⟨_, pa_nil, fun e ρ τ σ H Hs avs Q o h q => by cases h; exact q [] ⟨rfl, rfl, rfl⟩⟩
theorem vqj_b {p : P} {fr : Sl → Option (List AV)} (hs : starB e1 = false) (hp : PJ X g (evP p) e1) (hr : VqJ X g fr es) : VqJ X g (fun ρ => (evP p ρ).bind fun t => (fr ρ).map fun avs => .bor t :: avs) (e1 :: es) := by
  obtain ⟨ta, pa, ra⟩ := hp
  obtain ⟨tb, pb, rb⟩ := hr
  refine ⟨_, pa_cons pa pb (star_cons hs), fun e ρ τ σ H Hs avs Q o h q => ?_⟩
  simp only [Option.bind_eq_some_iff, Option.map_eq_some_iff] at h
  obtain ⟨t, ht, avs', h, rfl⟩ := h
  obtain ⟨fs, ft, r1, _⟩ := o.own
  refine ra ρ σ H Hs _ t (r1.view o.sub) ht _ fun v fp rv => rb e ρ τ σ H Hs avs' _ o h fun vs ar => q (v :: vs) ⟨v, vs, rfl, ⟨fp, rv.r, .inr ⟨fs, r1, rv.o⟩⟩, ar⟩
theorem vqj_io (k : Cp X g c) {i : Nat} {x : Str} {fr : Sl → Option (List AV)} (h1 : c.N[i]? = some x) (h2 : visB c x = true) (hr : VqJ X g fr es) : VqJ X g (fun ρ => match ρ[i]? with | some (some _) => (fr ρ).map fun avs => .io i :: avs | _ => none) (.Name x pos :: es) := by
  obtain ⟨v1, v2, v3⟩ := k.vis h2
  obtain ⟨tb, pb, rb⟩ := hr
  refine ⟨_, pa_cons (pe_var (i := i) (by rw [k.N]; exact h1) v1 v2 v3) pb (star_cons rfl), fun e ρ τ σ H Hs avs Q o h q => ?_⟩
  dsimp only at h
  split at h
  · rename_i t ht
    simp only [Option.map_eq_some_iff] at h
    obtain ⟨avs', h, rfl⟩ := h
    obtain ⟨v, f, hv, _⟩ := o.get ht
    exact ⟨v, hv, rb e ρ τ σ H Hs avs' _ o h fun vs ar => q (v :: vs) ⟨v, vs, rfl, hv, ar⟩⟩
  · cases h
theorem vj_q {fq : Sl → Option (List AV)} (hq : VqJ X g fq es) : VJ X g W (fun ρ => okR (fq ρ) ρ) es := by
  obtain ⟨ta, pa, ra⟩ := hq
  refine ⟨ta, pa, fun e ρ τ σ H Hs Q o q => ?_⟩
  dsimp only at q
  cases h : fq ρ with
  | none => rw [h] at q; exact q.elim
  | some avs =>
    rw [h] at q
    exact ra e ρ τ σ H Hs avs Q o h fun vs ar => q vs H Hs ⟨[], [], o.nilG, ar⟩
theorem ARel.own_cons {Hs H : Hp} {ρ : Sl} {σ : L2.St} {avs : List AV} {vs vo : List V} {to : List T} {v : V} {t : T} (a : ARel g Hs H ρ σ avs vs vo to) : ARel g Hs H ρ σ (.own t :: avs) (v :: vs) (v :: vo) (t :: to) :=
  ⟨v, vs, vo, to, rfl, rfl, rfl, a⟩
theorem vj_c {fr : Sl → Option (Rs (List AV))} (hs : starB e1 = false) (ha : CJ X g W fa e1) (hr : VJ X g W fr es) :
    VJ X g W (fun ρ => bindR (fa ρ) fun t ρ1 => bindR (fr ρ1) fun avs ρ2 => some (.ok (.own t :: avs) ρ2)) (e1 :: es) := by
  obtain ⟨ta, pa, ra⟩ := ha
  obtain ⟨tb, pb, rb⟩ := hr
  refine ⟨_, pa_cons pa pb (star_cons hs), fun e ρ τ σ H Hs Q o q => ?_⟩
  dsimp only at q
  refine ra e ρ τ σ H Hs _ o ?_
  cases h : fa ρ with
  | none => rw [h] at q; exact q
  | some r =>
    rw [h] at q
    cases r with
    | ex c t ρ' => exact q
    | ok t ρ1 =>
      intro v H1 Hs1 o1
      simp only [bindR] at q
      refine rb e ρ1 _ σ H1 Hs1 _ o1 ?_
      cases h2 : fr ρ1 with
      | none => rw [h2] at q; exact q
      | some r2 =>
        rw [h2] at q
        cases r2 with
        | ex c t' ρ' => exact XP.drop q
        | ok avs ρ2 =>
          rintro vs H2 Hs2 ⟨vo, to, o2, ar⟩
          exact q (v :: vs) H2 Hs2 ⟨v :: vo, t :: to, o2.merge, ar.own_cons⟩
theorem vj_bf {p : P} {fr : Sl → Option (Rs (List AV))} (hs : starB e1 = false) (hp : PJ X g (evP p) e1) (hr : VJ X g W fr es) :
    VJ X g W (fun ρ => match evP p ρ with | some (.fz d) => bindR (fr ρ) fun avs ρ2 => some (.ok (.bor (.fz d) :: avs) ρ2) | _ => none) (e1 :: es) := by
  obtain ⟨ta, pa, ra⟩ := hp
  obtain ⟨tb, pb, rb⟩ := hr
  refine ⟨_, pa_cons pa pb (star_cons hs), fun e ρ τ σ H Hs Q o q => ?_⟩
  dsimp only at q
  split at q
  · rename_i d hd
    obtain ⟨O, vw⟩ := o.view
    refine ra ρ σ H Hs O _ vw hd _ fun v fp rv => ?_
    have rd := rv.r
    simp only [RepT] at rd
    refine rb e ρ _ σ H Hs _ (o.push rd.1) ?_
    cases h2 : fr ρ with
    | none => rw [h2] at q; exact q
    | some r2 =>
      rw [h2] at q
      cases r2 with
      | ex c t' ρ' => exact XP.drop q
      | ok avs ρ2 =>
        rintro vs H2 Hs2 ⟨vo, to, o2, ar⟩
        obtain ⟨f2, rt⟩ := o2.swap.top
        simp only [RepT] at rt
        exact q (v :: vs) H2 Hs2 ⟨vo, to, o2.swap.drop, v, vs, rfl, ⟨[], RepT.fz rt.1, .inl rfl⟩, ar⟩
  · exact q.elim
theorem vj_io (k : Cp X g c) {i : Nat} {x : Str} {fr : Sl → Option (Rs (List AV))} (h1 : c.N[i]? = some x) (h2 : visB c x = true) (hr : VJ X g W fr es) :
    VJ X g W (fun ρ => match ρ[i]? with | some (some _) => bindR (fr ρ) fun avs ρ2 => some (.ok (.io i :: avs) ρ2) | _ => none) (.Name x pos :: es) := by
  obtain ⟨v1, v2, v3⟩ := k.vis h2
  obtain ⟨tb, pb, rb⟩ := hr
  refine ⟨_, pa_cons (pe_var (i := i) (by rw [k.N]; exact h1) v1 v2 v3) pb (star_cons rfl), fun e ρ τ σ H Hs Q o q => ?_⟩
  dsimp only at q
  split at q
  · rename_i t ht
    obtain ⟨v, f, hv, _⟩ := o.get ht
    refine ⟨v, hv, rb e ρ τ σ H Hs _ o ?_⟩
    cases h2 : fr ρ with
    | none => rw [h2] at q; exact q
    | some r2 =>
      rw [h2] at q
      cases r2 with
      | ex c t' ρ' => exact q
      | ok avs ρ2 =>
        rintro vs H2 Hs2 ⟨vo, to, o2, ar⟩
        exact q (v :: vs) H2 Hs2 ⟨vo, to, o2, v, vs, rfl, hv, ar⟩
  · exact q.elim

/-- the defs that the text may call: how they stand -/
structure FnAt (X : Cx) (g : Gx) (nm : Str) (ps : List Str) (F : List T → Option Out) : Prop where
  ex : ∃ (f : Addr) (fd : FuncData) (j : Nat), X.mg nm = some (.ref f) ∧ PySem.W.keepIn X.K (.ref f) = true ∧ FnOk X.prog X.w X.K X.mg X.base (L2.CX X.prog X.w) j f fd ps (SpD g F) ∧ Room j X.A ∧ Binds X.K fd ps []
theorem Ok.permF {H0 S0 : Hp} {F F' : List Addr} {P : List (Nat × V)} {ρ : Sl} {τ : Tm} {σ : L2.St} {H Hs : Hp} (o : Ok g ⟨H0, S0, F, P⟩ ρ τ σ H Hs) (h : ∀ a, a ∈ F ↔ a ∈ F') : Ok g ⟨H0, S0, F', P⟩ ρ τ σ H Hs := by
  obtain ⟨fs, ft, r1, r2, c, n⟩ := o.own
  exact ⟨o.sub, o.sub0, fun a z => (o.new a z).imp id fun y => y.imp id (h a).mp, fun a h1 h2 => o.frame a (fun z => h1 ((h a).mp z)) h2, o.there, o.fix, fs, ft, r1, r2, c, fun a ha => let ⟨z1, z2, z3⟩ := n a ha; ⟨z1, z2, z3.imp id (h a).mp⟩⟩
theorem SpD.use {F : List T → Option Out} {vs vo : List V} {to : List T} {avs : List AV} {H Hs : Hp} {ρ : Sl} {e : Fr0} {τ : Tm} {σ : L2.St} {Q : VK} (o : Ok g e ρ ((vo, to) :: τ) σ H Hs) (ar : ARel g Hs H ρ σ avs vs vo to)
    (q : Post g W e τ σ one (callD F avs ρ) Q) : SpD g F vs H Q (WE W σ) := by
  unfold callD at q
  cases ht : takeA avs ρ with
  | none => rw [ht] at q; exact q.elim
  | some p =>
    obtain ⟨ts, ρ'⟩ := p
    rw [ht] at q
    simp only [Option.bind_some] at q
    cases hF : F ts with
    | none => rw [hF] at q; exact q.elim
    | some out =>
      rw [hF] at q
      simp only [Option.bind_some] at q
      obtain ⟨vi, ti, o1, hl, k⟩ := takeA_ok ar o ht
      have fx : ∀ p ∈ e.P, p.1 < σ.length := fun p hp => (List.getElem?_eq_some_iff.mp (o.fix p hp)).1
      have hlen : ρ'.length = σ.length := by
        obtain ⟨fs, ft, r1, _⟩ := o1.own
        exact r1.lengths
      have om : Ok g e ρ' ((vo ++ vi, to ++ ti) :: τ) σ H Hs := o1.merge
      obtain ⟨S, fa, fs', sH, sS, ra, ca, na, hle, back⟩ := om.call (lendA avs)
      -- the arguments, in their places
      obtain ⟨vs0, hsplit⟩ : ∃ fo fi, RepTs g S H to vo fo ∧ RepTs g S H ti vi fi ∧ fa = fo ++ fi := by
        obtain ⟨fs2, ft2, q1, q2, _⟩ := o1.own
        obtain ⟨f1, f2, e1, z1, f3, f4, e2, z2, _⟩ := q2
        have z1' : RepTs g S H ti vi f1 := RepTs.keep sS (fun _ _ => rfl) z1
        have z2' : RepTs g S H to vo f3 := RepTs.keep sS (fun _ _ => rfl) z2
        exact ⟨f3, f1, z2', z1', RepTs.det ra (RepTs.append z2' z1')⟩
      obtain ⟨fi, r1, r2, efa⟩ := hsplit
      have kb : ∀ t v f, RepT g Hs H t v f → (f = [] ∨ ∃ fs, RepE g Hs H ρ σ fs ∧ ∀ a ∈ f, a ∈ fs) → (lendA avs = false → isFz t = true) → lendA avs = false ∨ ioA avs = false → Rep g S t.d v := by
        intro t v f rt hf hz hio
        refine RepT.toD sS (fun a ha => ?_) rt
        rcases hf with rfl | ⟨fs, rfs, hin⟩
        · cases ha
        · by_cases hl0 : lendA avs = true
          · have hn : ioA avs = false := by
              rcases hio with z | z
              · rw [hl0] at z; cases z
              · exact z
            have eρ := takeA_noIo hn ht
            subst eρ
            obtain ⟨fs1, rfs1, hS⟩ := hle hl0
            rw [RepE.det rfs rfs1] at hin
            exact hS a (hin a ha)
          · have hl1 : lendA avs = false := by simpa using hl0
            have hz1 := hz hl1
            cases t <;> simp only [isFz, Bool.false_eq_true] at hz1
            simp only [RepT] at rt
            rw [rt.2] at ha
            cases ha
      have fin2 : ∀ (t : T) (fin : List (Option T)), retOk avs t fin = true → (lendA avs = false ∨ ioA avs = false) ∧ (lendA avs = true → t.sh = true ∧ shE fin = true) := by
        intro t fin h
        unfold retOk at h
        simp only [Bool.or_eq_true, Bool.not_eq_true', Bool.and_eq_true] at h
        rcases h with h | ⟨⟨h1, h2⟩, h3⟩
        · exact ⟨.inl h, fun z => by rw [h] at z; cases z⟩
        · exact ⟨.inr h1, fun _ => ⟨h2, h3⟩⟩
      cases out with
      | ret t fin =>
        simp only at q
        split at q
        · rename_i hret
          obtain ⟨hio, hsh⟩ := fin2 t fin hret
          obtain ⟨fp, rts, cf⟩ := k S vs0 fi r1 r2 fun t v f a1 a2 a3 => kb t v f a1 a2 a3 hio
          refine ⟨ts, S, fp, .ret t fin, sH, rts, fun a => ?_, fun a ha => na a ?_, hF, fun v H' S' en => ?_⟩
          · rw [cf a, ← List.count_append, ← efa]; exact ca a
          · rw [efa]
            have := List.count_pos_iff.mpr ha
            exact List.count_pos_iff.mp (by rw [List.count_append, ← cf a]; exact this)
          · have en' : EndOk g ⟨H, S, fa, []⟩ vs t fin v H' S' := Ok.permF en fun a => by
              rw [efa]
              constructor
              · intro ha
                have := List.count_pos_iff.mpr ha
                exact List.count_pos_iff.mp (by rw [List.count_append, ← cf a]; exact this)
              · intro ha
                have := List.count_pos_iff.mpr ha
                exact List.count_pos_iff.mp (by rw [cf a, ← List.count_append]; exact this)
            obtain ⟨Hs', o5⟩ := back vs t fin v H' S' en' hsh
            cases hp : putA avs fin ρ' with
            | none => rw [hp] at q; exact q.elim
            | some ρ'' =>
              rw [hp] at q
              exact q v H' Hs' (putA_ok ar fx hlen o5 hp)
        · exact q.elim
      | exc c t fin =>
        simp only at q
        split at q
        · rename_i hret
          obtain ⟨hio, hsh⟩ := fin2 t fin hret
          obtain ⟨fp, rts, cf⟩ := k S vs0 fi r1 r2 fun t v f a1 a2 a3 => kb t v f a1 a2 a3 hio
          refine ⟨ts, S, fp, .exc c t fin, sH, rts, fun a => ?_, fun a ha => na a ?_, hF, fun v dx H' S' en hd => ?_⟩
          · rw [cf a, ← List.count_append, ← efa]; exact ca a
          · rw [efa]
            have := List.count_pos_iff.mpr ha
            exact List.count_pos_iff.mp (by rw [List.count_append, ← cf a]; exact this)
          · have en' : EndOk g ⟨H, S, fa, []⟩ vs t fin v H' S' := Ok.permF en fun a => by
              rw [efa]
              constructor
              · intro ha
                have := List.count_pos_iff.mpr ha
                exact List.count_pos_iff.mp (by rw [List.count_append, ← cf a]; exact this)
              · intro ha
                have := List.count_pos_iff.mpr ha
                exact List.count_pos_iff.mp (by rw [cf a, ← List.count_append]; exact this)
            obtain ⟨Hs', o5⟩ := back vs t fin v H' S' en' hsh
            cases hp : putA avs fin ρ' with
            | none => rw [hp] at q; exact q.elim
            | some ρ'' =>
              rw [hp] at q
              exact q v dx H' Hs' (putA_ok ar fx hlen o5 hp) hd
        · exact q.elim
/-- f(..) of a def of the text -/
theorem cj_call (k : Cp X g c) (tk : Takes X W) {f : Str} {ps : List Str} {F : List T → Option Out} {fr : Sl → Option (Rs (List AV))} {p : Pos} (hg : glB c f = true) (hdb : (f == ("__debug__" : Str)) = false) (hf : FnAt X g f ps F) (hs : ∀ e ∈ e1 :: es, starB e = false) (ha : VJ X g W fr (e1 :: es)) :
    CJ X g W (fun ρ => bindR (fr ρ) fun avs ρ1 => callD F avs ρ1) (.Call (.Name f p) (e1 :: es) [] pos) := by
  obtain ⟨fa, fd, j, hm, hk, F1, hr, hb⟩ := hf.ex
  obtain ⟨ta, pa, ra⟩ := ha
  refine ⟨_, pe_callS F1 hr (k.gl hg) hm hk hb (passAt tk) pa hdb (star_cons (hs _ (by simp))) (star_none fun e he => hs e (by simp [he])), fun e ρ τ σ H Hs Q o q => ?_⟩
  dsimp only at q
  refine ra e ρ τ σ H Hs _ o ?_
  cases h : fr ρ with
  | none => rw [h] at q; exact q
  | some r =>
    rw [h] at q
    cases r with
    | ex c t ρ' => exact q
    | ok avs ρ1 =>
      rintro vs H1 Hs1 ⟨vo, to, o1, ar⟩
      exact SpD.use o1 ar q
end
end DL
namespace DL
open PySem PySem.Spec L2

/-! ### displays, tests, choices -/
def allFz : List T → Option (List D)
  | [] => some []
  | .fz d :: ts => (allFz ts).map (d :: ·)
  | _ => none
def tupT (ts : List T) : T :=
  match allFz ts with
  | some ds => .fz (.tup ds)
  | none => .tup ts
section
variable {X : Cx} {g : Gx} {c : Cxt} {W : WX} {e1 e2 e3 ex : Expr} {es : List Expr} {fa fb fd : Sl → Option (Rs T)} {pos : Pos}
theorem allFz_rep {Hs H : Hp} : ∀ {ts : List T} {ds : List D} {vs : List V} {f : List Addr}, allFz ts = some ds → RepTs g Hs H ts vs f → Reps g Hs ds vs ∧ f = []
  | [], _, _, _, h, r => by
    cases h
    simp only [RepTs] at r
    obtain ⟨rfl, rfl⟩ := r
    exact ⟨by simp only [Reps], rfl⟩
  | .fz d :: ts, ds, vs, f, h, r => by
    simp only [allFz, Option.map_eq_some_iff] at h
    obtain ⟨ds', h, rfl⟩ := h
    simp only [RepTs] at r
    obtain ⟨v, vs', f1, f2, rfl, rfl, q, r⟩ := r
    simp only [RepT] at q
    obtain ⟨q, rfl⟩ := q
    obtain ⟨q2, rfl⟩ := allFz_rep h r
    exact ⟨by simp only [Reps]; exact ⟨v, vs', rfl, q, q2⟩, rfl⟩
  | .lst _ :: _, _, _, _, h, _ => by cases h
  | .tup _ :: _, _, _, _, h, _ => by cases h
  | .dic _ _ :: _, _, _, _, h, _ => by cases h
  | .obj _ _ _ :: _, _, _, _, h, _ => by cases h
theorem tupT_rep {Hs H : Hp} {ts : List T} {vs : List V} {f : List Addr} {a : Addr} (h : Hs a = some (.tup vs)) (r : RepTs g Hs H ts vs f) : RepT g Hs H (tupT ts) (.ref a) f := by
  unfold tupT
  cases e : allFz ts with
  | none => simp only [RepT]; exact ⟨a, vs, rfl, h, r⟩
  | some ds =>
    obtain ⟨q, rfl⟩ := allFz_rep e r
    simp only [RepT, Rep]
    exact ⟨⟨a, vs, rfl, SqT.of h, q⟩, trivial⟩
/-- (a, b, ..) -/
theorem cj_tup {fr : Sl → Option (Rs (List T))} {x1} (ha : AJ X g W fr es) : CJ X g W (fun ρ => bindR (fr ρ) fun ts ρ1 => if ts.length ≤ sizeLine then some (.ok (tupT ts) ρ1) else none) (.Tuple es x1 pos) := by
  obtain ⟨ta, pa, ra⟩ := ha
  refine ⟨_, pe_tup pa, fun e ρ τ σ H Hs Q o q => ?_⟩
  refine ra e ρ τ σ H Hs _ o (Post.bind q fun ts ρ1 _ vs H1 Hs1 o1 q1 => ?_)
  split at q1
  · rename_i hz
    have hl : vs.length = ts.length := by
      obtain ⟨fs, ft, _, r, _⟩ := o1.own
      obtain ⟨f, f', _, r, _⟩ := r
      exact r.length
    refine ⟨by rw [hl]; exact hz, fun p hp => q1 _ _ _ (o1.pack (ps := []) (upd_keep hp) (fun _ z => nomatch z) (fun _ z => nomatch z) List.nodup_nil (Same_upd (o1.freeS hp)) (fun a u z => ?_) (fun a z => ?_) (fun _ z => nomatch z) fun f r => by
      rw [List.nil_append]
      exact tupT_rep upd_same r)⟩
    · by_cases h : a = p
      · subst h; rw [upd_same] at z ⊢; exact z
      · rw [upd_ne h] at z ⊢; exact o1.sub a u z
    · by_cases h : a = p
      · subst h; exact .inr hp
      · rw [upd_ne h] at z; exact .inl z
  · exact q1.elim
/-- a new list of what is at hand -/
theorem Ok.newList {e : Fr0} {ρ : Sl} {τ : Tm} {σ : L2.St} {H Hs : Hp} {vs : List V} {ts : List T} {p : Addr} (o : Ok g e ρ ((vs, ts) :: τ) σ H Hs) (hp : H p = none) : Ok g e ρ (([.ref p], [.lst ts]) :: τ) σ (upd H p (.lst vs)) Hs := by
  have hs := o.freeS hp
  refine o.pack (ps := [p]) (upd_keep hp) (fun a z => ?_) (fun a z => ?_) (by simp) (Same.refl _) (fun a u z => ?_) (fun a z => .inl z) (fun a z => ?_) fun f r => ?_
  · simp at z; subst z; exact hp
  · simp at z; subst z; rw [upd_same]; simp
  · rw [upd_ne (ne_of_none (o.sub a u z) hp)]; exact o.sub a u z
  · simp at z; subst z; exact hs
  · simp only [RepT]
    exact ⟨p, vs, f, rfl, upd_same, rfl, r⟩
theorem cj_lst {fr : Sl → Option (Rs (List T))} (ha : AJ X g W fr es) : CJ X g W (fun ρ => bindR (fr ρ) fun ts ρ1 => if ts.length ≤ sizeLine then some (.ok (.lst ts) ρ1) else none) (.List es pos) := by
  obtain ⟨ta, pa, ra⟩ := ha
  refine ⟨_, pe_lst pa, fun e ρ τ σ H Hs Q o q => ?_⟩
  refine ra e ρ τ σ H Hs _ o (Post.bind q fun ts ρ1 _ vs H1 Hs1 o1 q1 => ?_)
  split at q1
  · rename_i hz
    have hl : vs.length = ts.length := by
      obtain ⟨fs, ft, _, r, _⟩ := o1.own
      obtain ⟨f, f', _, r, _⟩ := r
      exact r.length
    exact ⟨by rw [hl]; exact hz, fun p hp => q1 _ _ _ (o1.newList hp)⟩
  · exact q1.elim

/-! tests -/
theorem PostB.bind {α γ δ : Type} {e : Fr0} {τ : Tm} {σ : L2.St} {gr' : γ → δ → List V × List T} {r : Option (Rs γ)} {k : γ → Sl → Option (Rs Bool)} {Q : Bool → Hp → Prop} {Q1 : δ → Hp → Prop}
    (q : PostB g W e τ σ (bindR r k) Q) (h : ∀ a ρ1, r = some (.ok a ρ1) → ∀ b H1 Hs1, Ok g e ρ1 (gr' a b :: τ) σ H1 Hs1 → PostB g W e τ σ (k a ρ1) Q → Q1 b H1) : Post g W e τ σ gr' r Q1 := by
  cases r with
  | none => exact q
  | some r =>
    cases r with
    | ex c t ρ => exact q
    | ok a ρ1 => exact fun b H1 Hs1 o1 => h a ρ1 rfl b H1 Hs1 o1 q
theorem PostB.bindB {e : Fr0} {τ : Tm} {σ : L2.St} {r : Option (Rs Bool)} {k : Bool → Sl → Option (Rs Bool)} {Q Q1 : Bool → Hp → Prop}
    (q : PostB g W e τ σ (bindR r k) Q) (h : ∀ b ρ1, r = some (.ok b ρ1) → ∀ H1 Hs1, Ok g e ρ1 τ σ H1 Hs1 → PostB g W e τ σ (k b ρ1) Q → Q1 b H1) : PostB g W e τ σ r Q1 := by
  cases r with
  | none => exact q
  | some r =>
    cases r with
    | ex c t ρ => exact q
    | ok a ρ1 => exact fun H1 Hs1 o1 => h a ρ1 rfl H1 Hs1 o1 q
/-- by the truth of a value -/
theorem bj_val (k : Cp X g c) (ha : CJ X g W fa ex) (he : ∀ whole, isTrue ex X.env whole = (do let v ← whole; standAt ex.pos; holding [v] (truthy v))) : BJ X g W (fun ρ => bindR (fa ρ) fun x ρ1 => okR x.d.tru ρ1) ex := by
  obtain ⟨ta, pa, ra⟩ := ha
  refine ⟨_, pt_truth pa he, fun e ρ τ σ H Hs Q o q => ?_⟩
  refine ra e ρ τ σ H Hs _ o (PostB.bind (α := Bool) q fun x ρ1 _ v H1 Hs1 o1 q1 => ?_)
  cases hb : x.d.tru with
  | none => rw [hb] at q1; exact q1.elim
  | some b =>
    rw [hb] at q1
    obtain ⟨f, r⟩ := o1.top
    exact ⟨b, truD k.hk (r.now o1.sub) hb, q1 H1 Hs1 o1.drop⟩
theorem bj_not (ha : BJ X g W fe e1) : BJ X g W (fun ρ => bindR (fe ρ) fun b ρ1 => some (.ok (!b) ρ1)) (.UnaryOp .Not e1 pos) := by
  obtain ⟨ta, pa, ra⟩ := ha
  refine ⟨_, pt_not pa, fun e ρ τ σ H Hs Q o q => ?_⟩
  exact ra e ρ τ σ H Hs _ o (PostB.bindB q fun b ρ1 _ H1 Hs1 o1 q1 => q1 H1 Hs1 o1)
theorem WBJ.t {f : Sl → Option (Rs Bool)} (h : WBJ X g W f ex) : BJ X g W f ex := let ⟨tt, w, r⟩ := h; ⟨tt, w.pt, r⟩
theorem wbj_and1 {f : Sl → Option (Rs Bool)} (ha : BJ X g W f e1) : WBJ X g W f (.BoolOp .And [e1] pos) := let ⟨ta, pa, ra⟩ := ha; ⟨ta, pw_and1 pa, ra⟩
theorem wbj_or1 {f : Sl → Option (Rs Bool)} (ha : BJ X g W f e1) : WBJ X g W f (.BoolOp .Or [e1] pos) := let ⟨ta, pa, ra⟩ := ha; ⟨ta, pw_or1 pa, ra⟩
theorem wbj_and {f f' : Sl → Option (Rs Bool)} (ha : BJ X g W f e1) (hb : WBJ X g W f' (.BoolOp .And (e2 :: es) pos)) : WBJ X g W (fun ρ => bindR (f ρ) fun b ρ1 => if b = true then f' ρ1 else some (.ok false ρ1)) (.BoolOp .And (e1 :: e2 :: es) pos) := by
  obtain ⟨ta, pa, ra⟩ := ha
  obtain ⟨tb, pb, rb⟩ := hb
  refine ⟨_, pw_and pa pb, fun e ρ τ σ H Hs Q o q => ?_⟩
  refine ra e ρ τ σ H Hs _ o (PostB.bindB q fun b ρ1 _ H1 Hs1 o1 q1 => ?_)
  cases b with
  | true => exact iteT (rb e ρ1 τ σ H1 Hs1 Q o1 q1)
  | false => exact iteF (q1 H1 Hs1 o1)
theorem wbj_or {f f' : Sl → Option (Rs Bool)} (ha : BJ X g W f e1) (hb : WBJ X g W f' (.BoolOp .Or (e2 :: es) pos)) : WBJ X g W (fun ρ => bindR (f ρ) fun b ρ1 => if b = true then some (.ok true ρ1) else f' ρ1) (.BoolOp .Or (e1 :: e2 :: es) pos) := by
  obtain ⟨ta, pa, ra⟩ := ha
  obtain ⟨tb, pb, rb⟩ := hb
  refine ⟨_, pw_or pa pb, fun e ρ τ σ H Hs Q o q => ?_⟩
  refine ra e ρ τ σ H Hs _ o (PostB.bindB q fun b ρ1 _ H1 Hs1 o1 q1 => ?_)
  cases b with
  | true => exact iteT (q1 H1 Hs1 o1)
  | false => exact iteF (rb e ρ1 τ σ H1 Hs1 Q o1 q1)
theorem bj_cmp (k : Cp X g c) {o : O2} {op : CmpOp} (hn : o.bin = none) (ho : o.cmp = some op) (hs : setB e2 = false) (ha : CJ X g W fa e1) (hb : CJ X g W fb e2) :
    BJ X g W (fun ρ => bindR (fa ρ) fun x ρ1 => bindR (fb ρ1) fun y ρ2 => okR ((o2 o x.d y.d).bind D.tru) ρ2) (.Compare e1 [op] [e2] pos) := by
  obtain ⟨r, hr, rr⟩ := opD (X := X) k.hk (by have := k.hu; omega) o
  have hf : o.f = compareOp op := by unfold O2.f; rw [hn, ho]; rfl
  rw [hf] at hr
  obtain ⟨ta, pa, ra⟩ := ha
  obtain ⟨tb, pb, rb⟩ := hb
  refine ⟨_, pt_cmpR hr pa pb (noMark hs), fun e ρ τ σ H Hs Q ok q => ?_⟩
  refine ra e ρ τ σ H Hs _ ok (PostB.bind (α := Bool) q fun x ρ1 _ va H1 Hs1 o1 q1 => ?_)
  refine rb e ρ1 _ σ H1 Hs1 _ o1 ?_
  cases h2 : fb ρ1 with
  | none => rw [h2] at q1; exact q1
  | some r2 =>
    rw [h2] at q1
    cases r2 with
    | ex c t' ρ' => exact XP.drop q1
    | ok y ρ2 =>
      intro vb H2 Hs2 o2
      simp only [bindR, okR] at q1
      cases hd : DL.o2 o x.d y.d with
      | none => rw [hd] at q1; exact q1.elim
      | some d =>
        rw [hd] at q1
        obtain ⟨kb, rfl⟩ := o2_cmp hn hd
        obtain ⟨fy, ry⟩ := o2.top
        obtain ⟨fx, rx⟩ := o2.swap.top
        obtain ⟨h1, h3⟩ := rr H2 x.d y.d va vb _ (rx.now o2.sub) (ry.now o2.sub) hd
        exact h3 _ ⟨kb, rfl, q1 H2 Hs2 o2.drop.drop⟩
/-- a if t else b -/
theorem cj_ife {ft : Sl → Option (Rs Bool)} (ht : BJ X g W ft e1) (ha : CJ X g W fa e2) (hb : CJ X g W fb e3) : CJ X g W (fun ρ => bindR (ft ρ) fun b ρ1 => if b = true then fa ρ1 else fb ρ1) (.IfExp e1 e2 e3 pos) := by
  obtain ⟨tt, pt, rt⟩ := ht
  obtain ⟨ta, pa, ra⟩ := ha
  obtain ⟨tb, pb, rb⟩ := hb
  refine ⟨_, pe_ifExp pt pa pb, fun e ρ τ σ H Hs Q o q => ?_⟩
  refine rt e ρ τ σ H Hs _ o ?_
  dsimp only at q
  cases h : ft ρ with
  | none => rw [h] at q; exact q
  | some r =>
    rw [h] at q
    cases r with
    | ex c t ρ' => exact q
    | ok b ρ1 =>
      intro H1 Hs1 o1
      cases b with
      | true => exact iteT (ra e ρ1 τ σ H1 Hs1 Q o1 q)
      | false => exact iteF (rb e ρ1 τ σ H1 Hs1 Q o1 q)
theorem bj_ife {ft f1 f2 : Sl → Option (Rs Bool)} (ht : BJ X g W ft e1) (ha : BJ X g W f1 e2) (hb : BJ X g W f2 e3) : BJ X g W (fun ρ => bindR (ft ρ) fun b ρ1 => if b = true then f1 ρ1 else f2 ρ1) (.IfExp e1 e2 e3 pos) := by
  obtain ⟨tt, pt, rt⟩ := ht
  obtain ⟨ta, pa, ra⟩ := ha
  obtain ⟨tb, pb, rb⟩ := hb
  refine ⟨fun σ H Q => tt σ H fun c H1 => if c = true then ta σ H1 Q else tb σ H1 Q, ⟨fun pins s σ H Q I h => ?_⟩, fun e ρ τ σ H Hs Q o q => ?_⟩
  · refine PyProof.Rows.isTrue_IfExp (thn (pt.run pins s σ H _ I h) fun d s1 ⟨H1, I1, q1⟩ => ?_)
    cases d with
    | true => exact pa.run pins s1 σ H1 Q I1 q1
    | false => exact pb.run pins s1 σ H1 Q I1 q1
  · refine rt e ρ τ σ H Hs _ o (PostB.bindB q fun b ρ1 _ H1 Hs1 o1 q1 => ?_)
    cases b with
    | true => exact iteT (ra e ρ1 τ σ H1 Hs1 Q o1 q1)
    | false => exact iteF (rb e ρ1 τ σ H1 Hs1 Q o1 q1)
end
end DL
namespace DL
open PySem PySem.Spec L2

/-! ### statements -/
inductive Fl where
  | nx (ρ : Sl) | ret (t : T) (ρ : Sl) | bk (ρ : Sl) | ct (ρ : Sl) | ex (c : Nat) (t : T) (ρ : Sl)
def PrOk (e : Fr0) (c : Cxt) : Prop := ∀ p ∈ e.P, p.1 ∈ c.prot
def PostS (g : Gx) (W : WX) (e : Fr0) (τ : Tm) (D : Ends) (r : Option Fl) : Prop :=
  match r with
  | none => False
  | some (.nx ρ) => ∀ σ' H' Hs', Ok g e ρ τ σ' H' Hs' → D.nx σ' H'
  | some (.bk ρ) => ∀ σ' H' Hs', Ok g e ρ τ σ' H' Hs' → D.bk σ' H'
  | some (.ct ρ) => ∀ σ' H' Hs', Ok g e ρ τ σ' H' Hs' → D.ct σ' H'
  | some (.ret t ρ) => ∀ v σ' H' Hs', Ok g e ρ (([v], [t]) :: τ) σ' H' Hs' → D.rt v H'
  | some (.ex c t ρ) => ∀ v dx σ' H' Hs', Ok g e ρ (([v], [t]) :: τ) σ' H' Hs' → H' dx = some (.xd [(valueN, v)]) → W (.ref (g.cls c)) (some dx) σ' H'
def SJ (X : Cx) (g : Gx) (c : Cxt) (W : WX) (f : Sl → Option Fl) (st : Stmt) : Prop :=
  ∃ ts, PS X st ts ∧ ∀ e ρ τ σ H Hs (D : Ends), PrOk e c → Ok g e ρ τ σ H Hs → PostS g W e τ D (f ρ) → ts D σ H
def SsJ (X : Cx) (g : Gx) (c : Cxt) (W : WX) (f : Sl → Option Fl) (st : List Stmt) : Prop :=
  ∃ ts, PSs X st ts ∧ ∀ e ρ τ σ H Hs (D : Ends), PrOk e c → Ok g e ρ τ σ H Hs → PostS g W e τ D (f ρ) → ts D σ H
def bindF (r : Option Fl) (k : Sl → Option Fl) : Option Fl :=
  match r with
  | some (.nx ρ) => k ρ
  | r => r
/-- an expression ahead of what a statement does with it -/
def bindE {α : Type} (r : Option (Rs α)) (k : α → Sl → Option Fl) : Option Fl :=
  match r with
  | none => none
  | some (.ok a ρ) => k a ρ
  | some (.ex c t ρ) => some (.ex c t ρ)
section
variable {X : Cx} {g : Gx} {c : Cxt} {W : WX} {e1 e2 ex : Expr} {st : Stmt} {sts : List Stmt} {fa fb : Sl → Option (Rs T)} {f1 f2 : Sl → Option Fl} {pos : Pos}
theorem PostS.bindE {α δ : Type} {e : Fr0} {τ : Tm} {σ : L2.St} {D : Ends} {gr : α → δ → List V × List T} {r : Option (Rs α)} {k : α → Sl → Option Fl} {Q1 : δ → Hp → Prop} (q : PostS g W e τ D (DL.bindE r k))
    (h : ∀ a ρ1, r = some (.ok a ρ1) → ∀ b H1 Hs1, Ok g e ρ1 (gr a b :: τ) σ H1 Hs1 → PostS g W e τ D (k a ρ1) → Q1 b H1) : Post g W e τ σ gr r Q1 := by
  cases r with
  | none => exact q
  | some r =>
    cases r with
    | ex c t ρ => exact fun v dx H' Hs' o hd => q v dx σ H' Hs' o hd
    | ok a ρ1 => exact fun b H1 Hs1 o1 => h a ρ1 rfl b H1 Hs1 o1 q
theorem PostS.bindEB {e : Fr0} {τ : Tm} {σ : L2.St} {D : Ends} {r : Option (Rs Bool)} {k : Bool → Sl → Option Fl} {Q1 : Bool → Hp → Prop} (q : PostS g W e τ D (DL.bindE r k))
    (h : ∀ b ρ1, r = some (.ok b ρ1) → ∀ H1 Hs1, Ok g e ρ1 τ σ H1 Hs1 → PostS g W e τ D (k b ρ1) → Q1 b H1) : PostB g W e τ σ r Q1 := by
  cases r with
  | none => exact q
  | some r =>
    cases r with
    | ex c t ρ => exact fun v dx H' Hs' o hd => q v dx σ H' Hs' o hd
    | ok a ρ1 => exact fun H1 Hs1 o1 => h a ρ1 rfl H1 Hs1 o1 q
theorem ssj_nil : SsJ X g c W (fun ρ => some (.nx ρ)) [] := ⟨_, pss_nil, fun e ρ τ σ H Hs D _ o q => q σ H Hs o⟩
theorem ssj_cons (h1 : SJ X g c W f1 st) (h2 : SsJ X g c W f2 sts) : SsJ X g c W (fun ρ => bindF (f1 ρ) f2) (st :: sts) := by
  obtain ⟨t1, p1, r1⟩ := h1
  obtain ⟨t2, p2, r2⟩ := h2
  refine ⟨_, pss_cons p1 p2, fun e ρ τ σ H Hs D hp o q => ?_⟩
  refine r1 e ρ τ σ H Hs _ hp o ?_
  dsimp only at q
  cases h : f1 ρ with
  | none => rw [h] at q; exact q
  | some r =>
    rw [h] at q
    cases r with
    | nx ρ1 => exact fun σ1 H1 Hs1 o1 => r2 e ρ1 τ σ1 H1 Hs1 D hp o1 q
    | ret t ρ1 => exact q
    | bk ρ1 => exact q
    | ct ρ1 => exact q
    | ex c t ρ1 => exact q
theorem sj_pass : SJ X g c W (fun ρ => some (.nx ρ)) (.Pass pos) := ⟨_, ps_pass, fun e ρ τ σ H Hs D _ o q => q σ H Hs o⟩
theorem sj_break : SJ X g c W (fun ρ => some (.bk ρ)) (.Break pos) := ⟨_, ps_break, fun e ρ τ σ H Hs D _ o q => q σ H Hs o⟩
theorem sj_continue : SJ X g c W (fun ρ => some (.ct ρ)) (.Continue pos) := ⟨_, ps_continue, fun e ρ τ σ H Hs D _ o q => q σ H Hs o⟩
def compB : Expr → Bool
  | .ListComp _ _ _ _ => true | .SetComp _ _ _ _ => true | .DictComp _ _ _ _ _ => true
  | _ => false
theorem no_swap {e : Expr} {t : Option Expr} {l : Nat} {env : PySem.Env} (h : compB e = false) : swapsWith e t l env = pure false := by
  cases e <;> first | rfl | simp [compB] at h
theorem sj_expr (hs : compB ex = false) (ha : CJ X g W fa ex) : SJ X g c W (fun ρ => bindE (fa ρ) fun _ ρ1 => some (.nx ρ1)) (.Expr ex pos) := by
  obtain ⟨ta, pa, ra⟩ := ha
  refine ⟨_, ps_expr pa (no_swap hs), fun e ρ τ σ H Hs D hp o q => ?_⟩
  exact ra e ρ τ σ H Hs _ o (PostS.bindE q fun x ρ1 _ v H1 Hs1 o1 q1 => q1 σ H1 Hs1 o1.drop)
theorem sj_ret (ha : CJ X g W fa ex) : SJ X g c W (fun ρ => bindE (fa ρ) fun t ρ1 => some (.ret t ρ1)) (.Return (some ex) pos) := by
  obtain ⟨ta, pa, ra⟩ := ha
  refine ⟨_, ps_ret pa, fun e ρ τ σ H Hs D hp o q => ?_⟩
  exact ra e ρ τ σ H Hs _ o (PostS.bindE q fun x ρ1 _ v H1 Hs1 o1 q1 => q1 v σ H1 Hs1 o1)
theorem sj_retN : SJ X g c W (fun ρ => some (.ret (.fz .non) ρ)) (.Return none pos) :=
  ⟨_, ps_retN, fun e ρ τ σ H Hs D hp o q => q _ σ H Hs (o.push (d := .non) (v := .non) (by simp only [Rep]))⟩
theorem sj_if {ft : Sl → Option (Rs Bool)} {a b : List Stmt} (ht : BJ X g W ft ex) (ha : SsJ X g c W f1 a) (hb : SsJ X g c W f2 b) : SJ X g c W (fun ρ => bindE (ft ρ) fun k ρ1 => if k = true then f1 ρ1 else f2 ρ1) (.If ex a b pos) := by
  obtain ⟨tt, pt, rt⟩ := ht
  obtain ⟨t1, p1, r1⟩ := ha
  obtain ⟨t2, p2, r2⟩ := hb
  refine ⟨_, ps_if pt p1 p2, fun e ρ τ σ H Hs D hp o q => ?_⟩
  refine rt e ρ τ σ H Hs _ o (PostS.bindEB q fun b ρ1 _ H1 Hs1 o1 q1 => ?_)
  cases b with
  | true => exact iteT (r1 e ρ1 τ σ H1 Hs1 D hp o1 q1)
  | false => exact iteF (r2 e ρ1 τ σ H1 Hs1 D hp o1 q1)
theorem Cp.loc (k : Cp X g c) {x : Str} (h : (c.look.lookup x == some .local || c.look.lookup x == some .cell) = true) : L2.Loc X.env.scope x := by
  unfold L2.Loc
  rw [k.sc]
  simp only [Bool.or_eq_true, beq_iff_eq] at h
  exact h
def locB (c : Cxt) (x : Str) : Bool := c.look.lookup x == some .local || c.look.lookup x == some .cell
def loclB (c : Cxt) (x : Str) : Bool := c.look.lookup x == some .local
theorem PrOk.ne {e : Fr0} (hp : PrOk e c) {i : Nat} (h : c.prot.contains i = false) : ∀ p ∈ e.P, p.1 ≠ i := fun p hm z => by
  have := hp p hm
  rw [z] at this
  have h2 : c.prot.contains i = true := List.contains_iff_mem.mpr this
  rw [h] at h2
  cases h2
theorem Ok.lenN {e : Fr0} {ρ : Sl} {τ : Tm} {σ : L2.St} {H Hs : Hp} (o : Ok g e ρ τ σ H Hs) : ρ.length = σ.length := by
  obtain ⟨fs, ft, r1, _⟩ := o.own
  exact r1.lengths
/-- x = e -/
theorem sj_asg (k : Cp X g c) (hfn : X.fn = fun _ => true) {i : Nat} {x : Str} {p : Pos} (h1 : c.N[i]? = some x) (h2 : locB c x = true) (h3 : c.prot.contains i = false) (hs : compB ex = false) (ha : CJ X g W fa ex) :
    SJ X g c W (fun ρ => bindE (fa ρ) fun t ρ1 => if i < ρ1.length then some (.nx (ρ1.set i (some t))) else none) (.Assign [.Name x p] ex pos) := by
  obtain ⟨ta, pa, ra⟩ := ha
  refine ⟨_, ps_set (i := i) k.nd (by rw [k.N]; exact h1) (k.loc h2) pa (no_swap hs) (.inl (by rw [hfn])), fun e ρ τ σ H Hs D hp o q => ?_⟩
  refine ra e ρ τ σ H Hs _ o (PostS.bindE q fun x ρ1 _ v H1 Hs1 o1 q1 => ?_)
  split at q1
  · rename_i hi
    exact q1 _ H1 Hs1 (o1.store hi (hp.ne h3))
  · exact q1.elim
/-- x op= e -/
def augB : O2 → Bool
  | .add => true | .sub => true | .mul => true | .fdiv => true | .mod => true | .band => true | .bor => true | .bxor => true
  | _ => false
theorem iop_mulX {X : Cx} : OpR X (inplaceOp .Mult) (rI CMulX fun i j => .int (i * j)) := opI fun _ _ _ _ _ _ _ hc q => PyProof.Rows.imul_int q hc.ok
theorem opIn {o : O2} (ho : augB o = true) : ∃ op r, o.bin = some op ∧ OpR X (inplaceOp op) r ∧
    ∀ H a b va vb d, Rep g H a va → Rep g H b vb → o2 o a b = some d → d.atom = true ∧ ∀ Q : VK, Q d.at H → r va vb H Q := by
  cases o <;> simp only [augB, Bool.false_eq_true] at ho
  · refine ⟨_, _, rfl, iop_add.or iop_add_str, fun H a b va vb d ra rb h => ?_⟩
    cases a <;> cases b <;> simp only [o2] at h <;> try cases h
    · simp only [Rep] at ra rb; subst ra; subst rb
      exact ⟨rfl, fun Q q => .inl ⟨_, _, rfl, rfl, q⟩⟩
    · split at h
      · rename_i hz
        cases h
        simp only [Rep] at ra rb; subst ra; subst rb
        exact ⟨rfl, fun Q q => .inr ⟨_, _, rfl, rfl, hz, q⟩⟩
      · cases h
  · refine ⟨_, _, rfl, iop_sub, fun H a b va vb d ra rb h => ?_⟩
    cases a <;> cases b <;> simp only [o2] at h <;> try cases h
    simp only [Rep] at ra rb; subst ra; subst rb
    exact ⟨rfl, fun Q q => ⟨_, _, rfl, rfl, q⟩⟩
  · refine ⟨_, _, rfl, iop_mulX, fun H a b va vb d ra rb h => ?_⟩
    cases a <;> cases b <;> simp only [o2] at h <;> try cases h
    split at h
    · rename_i hz
      cases h
      simp only [Rep] at ra rb; subst ra; subst rb
      exact ⟨rfl, fun Q q => ⟨_, _, rfl, rfl, (show CMulX _ _ from by unfold CMulX; exact of_decide_eq_true hz), q⟩⟩
    · cases h
  · refine ⟨_, _, rfl, iop_fdivW, fun H a b va vb d ra rb h => ?_⟩
    cases a <;> cases b <;> simp only [o2] at h <;> try cases h
    split at h
    · rename_i hz
      cases h
      simp only [Rep] at ra rb; subst ra; subst rb
      simp only [divB, Bool.and_eq_true, decide_eq_true_eq] at hz
      exact ⟨rfl, fun Q q => ⟨_, _, rfl, rfl, hz, q⟩⟩
    · cases h
  · refine ⟨_, _, rfl, iop_mod, fun H a b va vb d ra rb h => ?_⟩
    cases a <;> cases b <;> simp only [o2] at h <;> try cases h
    split at h
    · rename_i hz
      cases h
      simp only [Rep] at ra rb; subst ra; subst rb
      exact ⟨rfl, fun Q q => ⟨_, _, rfl, rfl, hz, q⟩⟩
    · cases h
  · refine ⟨_, _, rfl, iop_and, fun H a b va vb d ra rb h => ?_⟩
    cases a <;> cases b <;> simp only [o2] at h <;> try cases h
    simp only [Rep] at ra rb; subst ra; subst rb
    exact ⟨rfl, fun Q q => ⟨_, _, rfl, rfl, q⟩⟩
  · refine ⟨_, _, rfl, iop_or, fun H a b va vb d ra rb h => ?_⟩
    cases a <;> cases b <;> simp only [o2] at h <;> try cases h
    simp only [Rep] at ra rb; subst ra; subst rb
    exact ⟨rfl, fun Q q => ⟨_, _, rfl, rfl, q⟩⟩
  · refine ⟨_, _, rfl, iop_xor, fun H a b va vb d ra rb h => ?_⟩
    cases a <;> cases b <;> simp only [o2] at h <;> try cases h
    simp only [Rep] at ra rb; subst ra; subst rb
    exact ⟨rfl, fun Q q => ⟨_, _, rfl, rfl, q⟩⟩
theorem sj_aug (k : Cp X g c) (hfn : X.fn = fun _ => true) {o : O2} {op : Operator} {i : Nat} {x : Str} {p : Pos} (hb : o.bin = some op) (ho : augB o = true) (h1 : c.N[i]? = some x) (h2 : locB c x = true) (h3 : c.prot.contains i = false) (ha : CJ X g W fa ex) :
    SJ X g c W (fun ρ => match ρ[i]? with
      | some (some (.fz d)) => bindE (fa ρ) fun t ρ1 => match o2 o d t.d with
        | some d' => if i < ρ1.length then some (.nx (ρ1.set i (some (.fz d')))) else none
        | none => none
      | _ => none) (.AugAssign (.Name x p) op ex pos) := by
  obtain ⟨op', r, hb', hr, rr⟩ := opIn (X := X) (g := g) ho
  rw [hb] at hb'
  cases hb'
  obtain ⟨ta, pa, ra⟩ := ha
  refine ⟨_, ps_aug (i := i) k.nd (by rw [k.N]; exact h1) (k.loc h2) pa (fun pins s σ H x y v u Q I rx ry q => augR hr I rx ry q) (.inl (by rw [hfn])), fun e ρ τ σ H Hs D hp ok q => ?_⟩
  dsimp only at q
  split at q
  · rename_i d hd
    obtain ⟨v, f, hv, rv⟩ := ok.get hd
    simp only [RepT] at rv
    refine ⟨v, hv, ra e ρ _ σ H Hs _ (ok.push rv.1) ?_⟩
    cases h : fa ρ with
    | none => rw [h] at q; exact q
    | some r2 =>
      rw [h] at q
      cases r2 with
      | ex c t ρ1 => exact fun w dx H' Hs' o1 hdx => q w dx σ H' Hs' o1.swap.drop hdx
      | ok t ρ1 =>
        intro w H1 Hs1 o1
        simp only [bindE] at q
        split at q
        · rename_i d' hd'
          split at q
          · rename_i hi
            obtain ⟨f1, r1⟩ := o1.top
            obtain ⟨f2, r2⟩ := o1.swap.top
            obtain ⟨h4, h5⟩ := rr H1 d t.d v w d' (r2.now o1.sub) (r1.now o1.sub) hd'
            exact h5 _ (q _ H1 Hs1 ((o1.drop.drop.push (Rep.at h4)).store hi (hp.ne h3)))
          · exact q.elim
        · exact q.elim
  · exact q.elim
/-- the things of a group go into slots, from the first on -/
def storeG : List Nat → List T → Sl → Option Sl
  | [], [], ρ => some ρ
  | i :: is, t :: ts, ρ => if i < ρ.length then storeG is ts (ρ.set i (some t)) else none
  | _, _, _ => none
theorem Ok.popG {e : Fr0} {ρ : Sl} {τ : Tm} {σ : L2.St} {H Hs : Hp} {v : V} {vs : List V} {t : T} {ts : List T} (o : Ok g e ρ ((v :: vs, t :: ts) :: τ) σ H Hs) : Ok g e ρ (([v], [t]) :: (vs, ts) :: τ) σ H Hs := by
  obtain ⟨fs, ft, r1, r2, c, n⟩ := o.own
  obtain ⟨f, f', ef, z, r⟩ := r2
  simp only [RepTs] at z
  obtain ⟨v', vs', f1, f2, e1, rfl, q, z⟩ := z
  obtain ⟨rfl, rfl⟩ := List.cons.inj e1
  subst ef
  exact ⟨o.sub, o.sub0, o.new, o.frame, o.there, o.fix, fs, f1 ++ (f2 ++ f'), r1, ⟨f1, _, rfl, RepTs.one.mpr q, f2, f', rfl, z, r⟩, fun a => by have := c a; simp only [List.count_append] at this ⊢; omega, fun a ha => n a (by simp only [List.mem_append] at ha ⊢; rcases ha with h | h | h | h <;> simp [h])⟩
end
end DL
namespace DL
open PySem PySem.Spec L2

/-! ### several targets -/
def kidsT : T → Option (List T)
  | .fz (.tup ds) => some (ds.map T.fz)
  | .tup ts => some ts
  | _ => none
/-- swapped stores: not all constants -/
def parB (vs : List Expr) : Bool := vs.all (fun e => !starB e) && !vs.all (foldedForSure 8) && !vs.all (constantsAlone 8)
section
variable {X : Cx} {g : Gx} {c : Cxt} {W : WX} {e1 e2 ex : Expr} {st : Stmt} {sts : List Stmt} {fa fb : Sl → Option (Rs T)} {f1 f2 : Sl → Option Fl} {pos : Pos}
theorem swapped2 (k : Cp X g c) (hbk : X.env.scope.kind = .function) {x y : Str} {px py pt pt2 : Pos} {kt k2 : Nat} (hx : loclB c x = true) (hy : loclB c y = true) (hl : (py.line == px.line) = true) (hxy : x ≠ y) (h : parB [e1, e2] = true) :
    swappedStores [.Tuple [.Name x px, .Name y py] kt pt] (.Tuple [e1, e2] k2 pt2) X.env = pure (some [x, y]) := by
  have hb : X.env.blockKind = .function := by
    unfold PySem.Env.blockKind
    rw [hbk]
    rfl
  have kx : X.env.kindOf x = some .local := (k.sc x).trans (beq_iff_eq.mp hx)
  have ky : X.env.kindOf y = some .local := (k.sc y).trans (beq_iff_eq.mp hy)
  unfold parB at h
  simp only [Bool.and_eq_true, Bool.not_eq_true'] at h
  obtain ⟨⟨h1, h2⟩, h3⟩ := h
  have hl' : py.line = px.line := beq_iff_eq.mp hl
  unfold swappedStores
  simp only [hb]
  refine (if_neg (by simp)).trans ?_
  refine (if_neg ?_).trans ?_
  · rw [List.any_eq_true]
    rintro ⟨e, he, hs⟩
    have := (List.all_eq_true.mp h1) e he
    cases e <;> first | (cases hs; done) | (simp [starB] at this)
  · have hn : ¬ y = x := fun z => hxy z.symm
    simp only [List.filterMap, kx, ky, hl', List.head?, Option.map_some, Option.getD_some, Expr.pos, beq_self_eq_true, Bool.and_self, if_true, List.length_cons, List.length_nil]
    refine (if_neg (by simp [List.eraseDups_cons, hn])).trans ?_
    rw [if_neg (by rw [h2]; exact Bool.false_ne_true), if_neg (by rw [h3]; exact Bool.false_ne_true)]
theorem swapped3 (k : Cp X g c) (hbk : X.env.scope.kind = .function) {e3 : Expr} {x y z : Str} {px py pz pt pt2 : Pos} {kt k2 : Nat} (hx : loclB c x = true) (hy : loclB c y = true) (hz : loclB c z = true) (hl : (py.line == px.line) = true) (hl2 : (pz.line == px.line) = true) (hxy : x ≠ y) (hxz : x ≠ z) (hyz : y ≠ z) (h : parB [e1, e2, e3] = true) :
    swappedStores [.Tuple [.Name x px, .Name y py, .Name z pz] kt pt] (.Tuple [e1, e2, e3] k2 pt2) X.env = pure (some [x, y, z]) := by
  have hb : X.env.blockKind = .function := by
    unfold PySem.Env.blockKind
    rw [hbk]
    rfl
  have kx : X.env.kindOf x = some .local := (k.sc x).trans (beq_iff_eq.mp hx)
  have ky : X.env.kindOf y = some .local := (k.sc y).trans (beq_iff_eq.mp hy)
  have kz : X.env.kindOf z = some .local := (k.sc z).trans (beq_iff_eq.mp hz)
  unfold parB at h
  simp only [Bool.and_eq_true, Bool.not_eq_true'] at h
  obtain ⟨⟨h1, h2⟩, h3⟩ := h
  have hl' : py.line = px.line := beq_iff_eq.mp hl
  have hl2' : pz.line = px.line := beq_iff_eq.mp hl2
  unfold swappedStores
  simp only [hb]
  refine (if_neg (by simp)).trans ?_
  refine (if_neg ?_).trans ?_
  · rw [List.any_eq_true]
    rintro ⟨e, he, hs⟩
    have := (List.all_eq_true.mp h1) e he
    cases e <;> first | (cases hs; done) | (simp [starB] at this)
  · have hn : ¬ y = x := fun z => hxy z.symm
    have hn2 : ¬ z = x := fun w => hxz w.symm
    have hn3 : ¬ z = y := fun w => hyz w.symm
    simp only [List.filterMap, kx, ky, kz, hl', hl2', List.head?, Option.map_some, Option.getD_some, Expr.pos, beq_self_eq_true, Bool.and_self, if_true, List.length_cons, List.length_nil]
    refine (if_neg (by simp [List.eraseDups_cons, hn, hn2, hn3])).trans ?_
    rw [if_neg (by rw [h2]; exact Bool.false_ne_true), if_neg (by rw [h3]; exact Bool.false_ne_true)]
/-- a, b = x, y with plain local names -/
theorem sj_par2 (k : Cp X g c) (hbk : X.env.scope.kind = .function) {i j : Nat} {x y : Str} {px py pt pt2 : Pos} {kt k2 : Nat} {fr : Sl → Option (Rs (List T))} (hi : c.N[i]? = some x) (hj : c.N[j]? = some y) (hij : i ≠ j) (hx : loclB c x = true) (hy : loclB c y = true) (p1 : c.prot.contains i = false) (p2 : c.prot.contains j = false)
    (hl : (py.line == px.line) = true) (hxy : x ≠ y) (hs : parB [e1, e2] = true) (ha : AJ X g W fr [e1, e2]) :
    SJ X g c W (fun ρ => bindE (fr ρ) fun ts ρ1 => (storeG [i, j] ts ρ1).map Fl.nx) (.Assign [.Tuple [.Name x px, .Name y py] kt pt] (.Tuple [e1, e2] k2 pt2) pos) := by
  obtain ⟨ta, pa, ra⟩ := ha
  have lx : X.env.scope.names.lookup x = some .local := by rw [k.sc]; exact beq_iff_eq.mp hx
  have ly : X.env.scope.names.lookup y = some .local := by rw [k.sc]; exact beq_iff_eq.mp hy
  refine ⟨_, ps_par k.calm k.nd (by rw [k.N]; exact hi) (by rw [k.N]; exact hj) hij lx ly pa (swapped2 k hbk hx hy hl hxy hs) rfl, fun e ρ τ σ H Hs D hp o q => ?_⟩
  refine ra e ρ τ σ H Hs _ o (PostS.bindE q fun ts ρ1 _ vs H1 Hs1 o1 q1 => ?_)
  match ts, q1, o1 with
  | [t, u], q1, o1 =>
    obtain ⟨v, w, rfl⟩ : ∃ v w, vs = [v, w] := by
      obtain ⟨fs, ft, _, r, _⟩ := o1.own
      obtain ⟨f, f', _, r, _⟩ := r
      have := r.length
      match vs, this with
      | [v, w], _ => exact ⟨v, w, rfl⟩
    simp only [storeG] at q1
    split at q1
    · rename_i h1
      split at q1
      · rename_i h2
        refine ⟨v, w, rfl, q1 _ H1 Hs1 (Ok.drop (p := ([], [])) ?_)⟩
        exact ((o1.popG.store h1 (hp.ne p1)).popG.store h2 (hp.ne p2))
      · exact q1.elim
    · exact q1.elim
  | [], q1, _ => exact q1.elim
  | [t], q1, _ =>
    simp only [storeG] at q1
    split at q1 <;> exact q1.elim
  | t :: u :: z :: r, q1, _ =>
    simp only [storeG] at q1
    split at q1
    · split at q1 <;> exact q1.elim
    · exact q1.elim
theorem sj_par3 (k : Cp X g c) (hbk : X.env.scope.kind = .function) {e3 : Expr} {i j l : Nat} {x y z : Str} {px py pz pt pt2 : Pos} {kt k2 : Nat} {fr : Sl → Option (Rs (List T))} (hi : c.N[i]? = some x) (hj : c.N[j]? = some y) (hl : c.N[l]? = some z) (hij : i ≠ j) (hil : i ≠ l) (hjl : j ≠ l) (hx : loclB c x = true) (hy : loclB c y = true) (hz : loclB c z = true)
    (p1 : c.prot.contains i = false) (p2 : c.prot.contains j = false) (p3 : c.prot.contains l = false)
    (hl1 : (py.line == px.line) = true) (hl2 : (pz.line == px.line) = true) (hxy : x ≠ y) (hxz : x ≠ z) (hyz : y ≠ z) (hs : parB [e1, e2, e3] = true) (ha : AJ X g W fr [e1, e2, e3]) :
    SJ X g c W (fun ρ => bindE (fr ρ) fun ts ρ1 => (storeG [i, j, l] ts ρ1).map Fl.nx) (.Assign [.Tuple [.Name x px, .Name y py, .Name z pz] kt pt] (.Tuple [e1, e2, e3] k2 pt2) pos) := by
  obtain ⟨ta, pa, ra⟩ := ha
  have lx : X.env.scope.names.lookup x = some .local := by rw [k.sc]; exact beq_iff_eq.mp hx
  have ly : X.env.scope.names.lookup y = some .local := by rw [k.sc]; exact beq_iff_eq.mp hy
  have lz : X.env.scope.names.lookup z = some .local := by rw [k.sc]; exact beq_iff_eq.mp hz
  refine ⟨_, ps_par3 k.calm k.nd (by rw [k.N]; exact hi) (by rw [k.N]; exact hj) (by rw [k.N]; exact hl) hij hil hjl lx ly lz pa (swapped3 k hbk hx hy hz hl1 hl2 hxy hxz hyz hs) rfl, fun e ρ τ σ H Hs D hp o q => ?_⟩
  refine ra e ρ τ σ H Hs _ o (PostS.bindE q fun ts ρ1 _ vs H1 Hs1 o1 q1 => ?_)
  match ts, q1, o1 with
  | [t, u, s], q1, o1 =>
    obtain ⟨v, w, r, rfl⟩ : ∃ v w r, vs = [v, w, r] := by
      obtain ⟨fs, ft, _, r, _⟩ := o1.own
      obtain ⟨f, f', _, r, _⟩ := r
      have := r.length
      match vs, this with
      | [v, w, r], _ => exact ⟨v, w, r, rfl⟩
    simp only [storeG] at q1
    split at q1
    · rename_i h1
      split at q1
      · rename_i h2
        split at q1
        · rename_i h3
          refine ⟨v, w, r, rfl, q1 _ H1 Hs1 (Ok.drop (p := ([], [])) ?_)⟩
          exact (((o1.popG.store h1 (hp.ne p1)).popG.store h2 (hp.ne p2)).popG.store h3 (hp.ne p3))
        · exact q1.elim
      · exact q1.elim
    · exact q1.elim
  | [], q1, _ => exact q1.elim
  | [t], q1, _ =>
    simp only [storeG] at q1
    split at q1 <;> exact q1.elim
  | [t, u], q1, _ =>
    simp only [storeG] at q1
    split at q1
    · split at q1 <;> exact q1.elim
    · exact q1.elim
  | t :: u :: z :: w :: r, q1, _ =>
    simp only [storeG] at q1
    split at q1
    · split at q1
      · split at q1 <;> exact q1.elim
      · exact q1.elim
    · exact q1.elim

/-! ### while -/
def whileN (ft : Sl → Option (Rs Bool)) (fb : Sl → Option Fl) : Nat → Sl → Option Fl
  | 0, _ => none
  | n + 1, ρ => match ft ρ with
    | none => none
    | some (.ex c t ρ1) => some (.ex c t ρ1)
    | some (.ok false ρ1) => some (.nx ρ1)
    | some (.ok true ρ1) => match fb ρ1 with
      | some (.nx ρ2) => whileN ft fb n ρ2
      | some (.ct ρ2) => whileN ft fb n ρ2
      | some (.bk ρ2) => some (.nx ρ2)
      | some (.ret t ρ2) => some (.ret t ρ2)
      | some (.ex c t ρ2) => some (.ex c t ρ2)
      | none => none
/-- a while that ends -/
noncomputable def whileF (ft : Sl → Option (Rs Bool)) (fb : Sl → Option Fl) (ρ : Sl) : Option Fl := by
  classical
  exact if h : ∃ n r, whileN ft fb n ρ = some r then whileN ft fb h.choose ρ else none
theorem whileN_mono {ft : Sl → Option (Rs Bool)} {fb : Sl → Option Fl} : ∀ {n m : Nat} {ρ : Sl} {r : Fl}, whileN ft fb n ρ = some r → n ≤ m → whileN ft fb m ρ = some r
  | 0, _, _, _, h, _ => by cases h
  | n + 1, 0, _, _, _, l => by omega
  | n + 1, m + 1, ρ, r, h, l => by
    simp only [whileN] at h ⊢
    split at h
    · cases h
    · exact h
    · exact h
    · split at h
      · exact whileN_mono h (by omega)
      · exact whileN_mono h (by omega)
      · exact h
      · exact h
      · exact h
      · cases h
theorem whileF_of {ft : Sl → Option (Rs Bool)} {fb : Sl → Option Fl} {n : Nat} {ρ : Sl} {r : Fl} (h : whileN ft fb n ρ = some r) : whileF ft fb ρ = some r := by
  unfold whileF
  have hx : ∃ n r, whileN ft fb n ρ = some r := ⟨n, r, h⟩
  rw [dif_pos hx]
  obtain ⟨r', h'⟩ := hx.choose_spec
  rw [h']
  have a := whileN_mono h (Nat.le_max_left n hx.choose)
  have b := whileN_mono h' (Nat.le_max_right n hx.choose)
  rw [a] at b
  exact b.symm
theorem whileF_to {ft : Sl → Option (Rs Bool)} {fb : Sl → Option Fl} {ρ : Sl} {r : Fl} (h : whileF ft fb ρ = some r) : ∃ n, whileN ft fb n ρ = some r := by
  unfold whileF at h
  split at h
  · exact ⟨_, h⟩
  · cases h
/-- one turn -/
theorem whileF_eq (ft : Sl → Option (Rs Bool)) (fb : Sl → Option Fl) (ρ : Sl) : whileF ft fb ρ = (match ft ρ with
    | none => none
    | some (.ex c t ρ1) => some (.ex c t ρ1)
    | some (.ok false ρ1) => some (.nx ρ1)
    | some (.ok true ρ1) => match fb ρ1 with
      | some (.nx ρ2) => whileF ft fb ρ2
      | some (.ct ρ2) => whileF ft fb ρ2
      | some (.bk ρ2) => some (.nx ρ2)
      | some (.ret t ρ2) => some (.ret t ρ2)
      | some (.ex c t ρ2) => some (.ex c t ρ2)
      | none => none) := by
  have fwd : ∀ r, whileF ft fb ρ = some r → (match ft ρ with
    | none => none
    | some (.ex c t ρ1) => some (.ex c t ρ1)
    | some (.ok false ρ1) => some (.nx ρ1)
    | some (.ok true ρ1) => match fb ρ1 with
      | some (.nx ρ2) => whileF ft fb ρ2
      | some (.ct ρ2) => whileF ft fb ρ2
      | some (.bk ρ2) => some (.nx ρ2)
      | some (.ret t ρ2) => some (.ret t ρ2)
      | some (.ex c t ρ2) => some (.ex c t ρ2)
      | none => none) = some r := fun r h => by
    obtain ⟨n, h⟩ := whileF_to h
    cases n with
    | zero => cases h
    | succ n =>
      simp only [whileN] at h
      split at h
      · cases h
      · exact h
      · exact h
      · split at h
        · exact whileF_of h
        · exact whileF_of h
        · exact h
        · exact h
        · exact h
        · cases h
  cases h : whileF ft fb ρ with
  | some r => exact (fwd r h).symm
  | none =>
    generalize hr : (match ft ρ with
      | none => none
      | some (.ex c t ρ1) => some (.ex c t ρ1)
      | some (.ok false ρ1) => some (.nx ρ1)
      | some (.ok true ρ1) => match fb ρ1 with
        | some (.nx ρ2) => whileF ft fb ρ2
        | some (.ct ρ2) => whileF ft fb ρ2
        | some (.bk ρ2) => some (.nx ρ2)
        | some (.ret t ρ2) => some (.ret t ρ2)
        | some (.ex c t ρ2) => some (.ex c t ρ2)
        | none => none : Option Fl) = r
    cases r with
    | none => rfl
    | some r =>
      exfalso
      have : ∃ n, whileN ft fb n ρ = some r := by
        split at hr
        · cases hr
        · rename_i c t ρ1 hf; exact ⟨1, by simp only [whileN, hf]; exact hr⟩
        · rename_i ρ1 hf; exact ⟨1, by simp only [whileN, hf]; exact hr⟩
        · rename_i ρ1 hf
          split at hr
          · rename_i ρ2 hb
            obtain ⟨n, hn⟩ := whileF_to hr
            exact ⟨n + 1, by simp only [whileN, hf, hb]; exact hn⟩
          · rename_i ρ2 hb
            obtain ⟨n, hn⟩ := whileF_to hr
            exact ⟨n + 1, by simp only [whileN, hf, hb]; exact hn⟩
          · rename_i ρ2 hb; exact ⟨1, by simp only [whileN, hf, hb]; exact hr⟩
          · rename_i t ρ2 hb; exact ⟨1, by simp only [whileN, hf, hb]; exact hr⟩
          · rename_i c t ρ2 hb; exact ⟨1, by simp only [whileN, hf, hb]; exact hr⟩
          · cases hr
      obtain ⟨n, hn⟩ := this
      rw [whileF_of hn] at h
      cases h
theorem sj_while {ft : Sl → Option (Rs Bool)} {body : List Stmt} (hpo : PassesOwn (model X.prog X.w) X.A X.env X.xe) (ht : BJ X g W ft ex) (hb : SsJ X g c W f1 body) : SJ X g c W (whileF ft f1) (.While ex body [] pos) := by
  obtain ⟨tt, pt, rt⟩ := ht
  obtain ⟨tb, pb, rb⟩ := hb
  refine ⟨_, ps_while hpo pt pb, fun e ρ τ σ H Hs D hp o q => ?_⟩
  have q' : ∃ n, PostS g W e τ D (whileN ft f1 n ρ) := by
    cases h : whileF ft f1 ρ with
    | none => rw [h] at q; exact q.elim
    | some r =>
      obtain ⟨n, hn⟩ := whileF_to h
      exact ⟨n, by rw [hn, ← h]; exact q⟩
  obtain ⟨n, q'⟩ := q'
  refine ⟨fun m σ H => ∃ ρ Hs, Ok g e ρ τ σ H Hs ∧ PostS g W e τ D (whileN ft f1 m ρ), ⟨n, ρ, Hs, o, q'⟩, ?_⟩
  rintro m σ H ⟨ρ, Hs, o, q⟩
  cases m with
  | zero => exact q.elim
  | succ m =>
    simp only [whileN] at q
    refine rt e ρ τ σ H Hs _ o ?_
    cases h : ft ρ with
    | none => rw [h] at q; exact q
    | some r =>
      rw [h] at q
      cases r with
      | ex c t ρ1 => exact fun v dx H' Hs' o' hd => q v dx σ H' Hs' o' hd
      | ok b ρ1 =>
        intro H1 Hs1 o1
        cases b with
        | false => exact iteF (q σ H1 Hs1 o1)
        | true =>
          refine iteT ⟨fun σ' H' => ∃ ρ Hs, Ok g e ρ τ σ' H' Hs ∧ PostS g W e τ D (whileN ft f1 m ρ), fun σ' H' h' => ⟨m, Nat.lt_succ_self m, h'⟩, rb e ρ1 τ σ H1 Hs1 _ hp o1 ?_⟩
          simp only at q
          cases h2 : f1 ρ1 with
          | none => rw [h2] at q; exact q
          | some r2 =>
            rw [h2] at q
            cases r2 with
            | nx ρ2 => exact fun σ' H' Hs' o' => ⟨ρ2, Hs', o', q⟩
            | ct ρ2 => exact fun σ' H' Hs' o' => ⟨ρ2, Hs', o', q⟩
            | bk ρ2 => exact q
            | ret t ρ2 => exact q
            | ex c t ρ2 => exact q
end
end DL
namespace DL
open PySem PySem.Spec L2

/-! ### targets -/
mutual
inductive Tg where
  | n (i : Nat) | t (ts : Tgs)
inductive Tgs where
  | nil | cons (a : Tg) (r : Tgs)
end
def Tgs.len : Tgs → Nat
  | .nil => 0
  | .cons _ r => r.len + 1
mutual
def stT : Tg → T → Sl → Option Sl
  | .n i, t, ρ => if i < ρ.length then some (ρ.set i (some t)) else none
  | .t ts, t, ρ => match kidsT t with
    | some us => stTs ts us ρ
    | none => none
def stTs : Tgs → List T → Sl → Option Sl
  | .nil, [], ρ => some ρ
  | .cons a r, t :: ts, ρ => match stT a t ρ with
    | some ρ' => stTs r ts ρ'
    | none => none
  | _, _, _ => none
end
mutual
def Tg.sl : Tg → List Nat
  | .n i => [i]
  | .t ts => ts.sl
def Tgs.sl : Tgs → List Nat
  | .nil => []
  | .cons a r => a.sl ++ r.sl
end
mutual
def mtG (c : Cxt) : Tg → Expr → Bool
  | .n i, .Name x _ => c.N[i]? == some x && stoB c x && !c.prot.contains i
  | .t ts, .Tuple es _ _ => mtGs c ts es
  | _, _ => false
def mtGs (c : Cxt) : Tgs → List Expr → Bool
  | .nil, [] => true
  | .cons a r, e :: es => !starB e && mtG c a e && mtGs c r es
  | _, _ => false
end
theorem stTs_len : ∀ {ts : Tgs} {us : List T} {ρ ρ' : Sl}, stTs ts us ρ = some ρ' → us.length = ts.len
  | .nil, [], _, _, _ => rfl
  | .nil, _ :: _, _, _, h => by simp [stTs] at h
  | .cons _ _, [], _, _, h => by simp [stTs] at h
  | .cons a r, u :: us, ρ, ρ', h => by
    simp only [stTs] at h
    split at h
    · rw [List.length_cons, stTs_len h]; rfl
    · cases h
section
variable {X : Cx} {g : Gx} {c : Cxt} {W : WX} {e : Fr0} {ρ ρ' : Sl} {τ : Tm} {σ σ' : L2.St} {H H' Hs Hs' : Hp}
theorem Reps.fzs {Hs H : Hp} : ∀ {ds : List D} {vs : List V}, Reps g Hs ds vs → RepTs g Hs H (ds.map T.fz) vs []
  | [], _, h => by
    simp only [Reps] at h
    subst h
    simp only [List.map_nil, RepTs]
    exact ⟨trivial, trivial⟩
  | d :: ds, _, h => by
    simp only [Reps] at h
    obtain ⟨v, vs', rfl, q, r⟩ := h
    simp only [List.map_cons, RepTs]
    exact ⟨v, vs', [], [], rfl, rfl, RepT.fz q, Reps.fzs r⟩
theorem Ok.pushs {vs : List V} {ds : List D} (o : Ok g e ρ τ σ H Hs) (r : Reps g Hs ds vs) : Ok g e ρ ((vs, ds.map T.fz) :: τ) σ H Hs := by
  obtain ⟨fs, ft, r1, r2, c, n⟩ := o.own
  exact ⟨o.sub, o.sub0, o.new, o.frame, o.there, o.fix, fs, ft, r1, ⟨[], ft, rfl, Reps.fzs r, r2⟩, c, n⟩
/-- a tuple at hand: its parts at hand -/
theorem Ok.kids {v : V} {t : T} {us : List T} (o : Ok g e ρ (([v], [t]) :: τ) σ H Hs) (h : kidsT t = some us) : ∃ a vs, v = .ref a ∧ SqT g.K H a vs ∧ vs.length = us.length ∧ Ok g e ρ ((vs, us) :: τ) σ H Hs := by
  unfold kidsT at h
  split at h
  · rename_i ds
    cases h
    obtain ⟨f, r⟩ := o.top
    simp only [RepT, Rep] at r
    obtain ⟨⟨a, vs, rfl, q, r⟩, _⟩ := r
    exact ⟨a, vs, rfl, Same.sqT o.sub q, by rw [r.length, List.length_map], o.drop.pushs r⟩
  · rename_i ts
    cases h
    obtain ⟨fs, ft, r1, r2, c, n⟩ := o.own
    obtain ⟨f, f', ef, z, r⟩ := r2
    have z := RepTs.one.mp z
    simp only [RepT] at z
    obtain ⟨a, vs, rfl, q, z⟩ := z
    exact ⟨a, vs, rfl, SqT.of (o.sub _ _ q), z.length, o.sub, o.sub0, o.new, o.frame, o.there, o.fix, fs, ft, r1, ⟨f, f', ef, z, r⟩, c, n⟩
  · cases h
/-- slots outside of is are as they were -/
def SlOut (is : List Nat) (σ σ' : L2.St) : Prop := σ'.length = σ.length ∧ ∀ j, j ∉ is → σ'[j]? = σ[j]?
theorem SlOut.refl {is : List Nat} : SlOut is σ σ := ⟨rfl, fun _ _ => rfl⟩
theorem SlOut.trans {is js : List Nat} {σ1 σ2 σ3 : L2.St} (a : SlOut is σ1 σ2) (b : SlOut js σ2 σ3) : SlOut (is ++ js) σ1 σ3 :=
  ⟨b.1.trans a.1, fun j hj => by
    simp only [List.mem_append, not_or] at hj
    rw [b.2 j hj.2, a.2 j hj.1]⟩
def GJ (X : Cx) (g : Gx) (c : Cxt) (tg : Tg) (ex : Expr) : Prop :=
  ∃ gt, PG X ex gt ∧ ∀ e ρ τ σ H Hs v t (Q : L2.St → Hp → Prop), PrOk e c → Ok g e ρ (([v], [t]) :: τ) σ H Hs → (∃ ρ', stT tg t ρ = some ρ' ∧ ∀ σ', SlOut tg.sl σ σ' → Ok g e ρ' τ σ' H Hs → Q σ' H) → gt v σ H Q
def GsJ (X : Cx) (g : Gx) (c : Cxt) (tg : Tgs) (es : List Expr) : Prop :=
  ∃ gt, PGs X es gt ∧ ∀ e ρ τ σ H Hs vs ts (Q : L2.St → Hp → Prop), PrOk e c → Ok g e ρ ((vs, ts) :: τ) σ H Hs → (∃ ρ', stTs tg ts ρ = some ρ' ∧ ∀ σ', SlOut tg.sl σ σ' → Ok g e ρ' τ σ' H Hs → Q σ' H) → gt vs σ H Q
theorem Cp.sto (k : Cp X g c) {x : Str} (h : stoB c x = true) : L2.Loc X.env.scope x := by
  unfold stoB at h
  simp only [Bool.or_eq_true, Bool.and_eq_true, beq_iff_eq] at h
  unfold L2.Loc
  rw [k.sc]
  exact h.imp id fun z => z.1
theorem asg_cons {e : Expr} {es : List Expr} {env : PySem.Env} (h : starB e = false) : assignEach (e :: es) env = (false, assign e env) :: assignEach es env := by
  cases e <;> first | rfl | simp [starB] at h
theorem asg_len {c : Cxt} {env : PySem.Env} : ∀ {tg : Tgs} {es : List Expr}, mtGs c tg es = true → (assignEach es env).length = tg.len ∧ (assignEach es env).findIdx? (·.1) = none
  | .nil, es, h => by
    unfold mtGs at h
    split at h <;> rename_i z <;> (try (cases z; done)) <;> (try (cases h; done))
    exact ⟨rfl, rfl⟩
  | .cons a r, es, h => by
    unfold mtGs at h
    split at h <;> rename_i z <;> (try (cases z; done)) <;> (try (cases h; done))
    cases z
    simp only [Bool.and_eq_true, Bool.not_eq_true'] at h
    obtain ⟨h1, h2⟩ := asg_len (env := env) h.2
    rw [asg_cons h.1.1]
    refine ⟨by rw [List.length_cons, h1]; rfl, ?_⟩
    rw [List.findIdx?_cons, h2]
    rfl
mutual
theorem sndG (k : Cp X g c) : ∀ (tg : Tg) (ex : Expr), mtG c tg ex = true → GJ X g c tg ex
  | .n i, ex, h => by
    unfold mtG at h
    split at h <;> rename_i z <;> (try (cases z; done)) <;> (try (cases h; done))
    cases z
    simp only [Bool.and_eq_true, Bool.not_eq_true', beq_iff_eq] at h
    obtain ⟨⟨h1, h2⟩, h3⟩ := h
    refine ⟨_, pg_name (i := i) k.nd (by rw [k.N]; exact h1) (k.sto h2) (k.fn _ h2), fun e ρ τ σ H Hs v t Q hp o q => ?_⟩
    obtain ⟨ρ', hs, q⟩ := q
    simp only [stT] at hs
    split at hs
    · rename_i hi
      cases hs
      exact q _ ⟨by rw [List.length_set], fun j hj => by
        simp only [Tg.sl, List.mem_singleton] at hj
        rw [List.getElem?_set_ne (fun z => hj z.symm)]⟩ (o.store hi (hp.ne h3))
    · cases hs
  | .t ts, ex, h => by
    unfold mtG at h
    split at h <;> rename_i z <;> (try (cases z; done)) <;> (try (cases h; done))
    cases z
    obtain ⟨gt, pg, rg⟩ := sndGs k ts _ h
    refine ⟨_, pg_tup (n := ts.len) k.calm pg (asg_len h).1 (asg_len h).2, fun e ρ τ σ H Hs v t Q hp o q => ?_⟩
    obtain ⟨ρ', hs, q⟩ := q
    simp only [stT] at hs
    split at hs
    · rename_i us hu
      obtain ⟨a, vs, rfl, sq, hl, o1⟩ := o.kids hu
      exact ⟨a, vs, rfl, k.hk ▸ sq, by rw [hl, stTs_len hs], rg e ρ τ σ H Hs vs us Q hp o1 ⟨ρ', hs, q⟩⟩
    · cases hs
theorem sndGs (k : Cp X g c) : ∀ (tg : Tgs) (es : List Expr), mtGs c tg es = true → GsJ X g c tg es
  | .nil, es, h => by
    unfold mtGs at h
    split at h <;> rename_i z <;> (try (cases z; done)) <;> (try (cases h; done))
    refine ⟨_, pgs_nil, fun e ρ τ σ H Hs vs ts Q hp o q => ?_⟩
    obtain ⟨ρ', hs, q⟩ := q
    cases ts with
    | nil =>
      cases hs
      have : vs = [] := by
        obtain ⟨fs, ft, _, r, _⟩ := o.own
        obtain ⟨f, f', _, r, _⟩ := r
        simpa using r.length
      exact ⟨this, q σ SlOut.refl o.drop⟩
    | cons t ts => simp [stTs] at hs
  | .cons a r, es, h => by
    unfold mtGs at h
    split at h <;> rename_i z <;> (try (cases z; done)) <;> (try (cases h; done))
    rename_i ex es' 
    cases z
    simp only [Bool.and_eq_true, Bool.not_eq_true'] at h
    obtain ⟨⟨h0, h1⟩, h2⟩ := h
    obtain ⟨g1, p1, r1⟩ := sndG k a _ h1
    obtain ⟨g2, p2, r2⟩ := sndGs k r _ h2
    refine ⟨_, pgs_cons p1 p2 (by rw [asg_cons h0]; rfl), fun e ρ τ σ H Hs vs ts Q hp o q => ?_⟩
    obtain ⟨ρ', hs, q⟩ := q
    cases ts with
    | nil => simp [stTs] at hs
    | cons t ts =>
      simp only [stTs] at hs
      split at hs
      · rename_i ρ1 h1
        obtain ⟨v, vs', rfl⟩ : ∃ v vs', vs = v :: vs' := by
          obtain ⟨fs, ft, _, r, _⟩ := o.own
          obtain ⟨f, f', _, r, _⟩ := r
          simp only [RepTs] at r
          obtain ⟨v, vs', _, _, e, _⟩ := r
          exact ⟨v, vs', e⟩
        refine ⟨v, vs', rfl, r1 e ρ _ σ H Hs v t _ hp o.popG ⟨ρ1, h1, fun σ1 so o1 => ?_⟩⟩
        exact r2 e ρ1 τ σ1 H Hs vs' ts Q hp o1 ⟨ρ', hs, fun σ2 so2 o2 => q σ2 (so.trans so2) o2⟩
      · cases hs
end
end
end DL
namespace DL
open PySem PySem.Spec L2

/-! ### what is walked -/
/-- what is kept at hand while something is walked -/
abbrev Ks := List (V × D)
def Kept (g : Gx) (Hs : Hp) (ks : Ks) : Prop := ∀ p ∈ ks, Rep g Hs p.2 p.1
def kG (ks : Ks) : List V × List T := (ks.map (·.1), ks.map fun p => .fz p.2)
/-- an iterator gives the items ds, frozen; new objects may come -/
def Gives (g : Gx) (J : It) (ds : List D) (ks : Ks) : Prop :=
  ∀ i H Hs, Kept g Hs ks → Same Hs H →
    (∀ d, ds[i]? = some d → J.go i H ∧ ∀ x H', J.yld i H x H' → ∃ Hs', (∀ a, H a ≠ none → H' a = H a) ∧ Same Hs Hs' ∧ Same Hs' H' ∧ (∀ a, Hs' a ≠ none → Hs a ≠ none ∨ H a = none) ∧ Rep g Hs' d x) ∧
    (i = ds.length → J.stop i H)
def PostI (g : Gx) (W : WX) (e : Fr0) (τ : Tm) (σ : L2.St) (r : Option (Rs (List D))) (R : It → Hp → Prop) : Prop :=
  match r with
  | none => False
  | some (.ok ds ρ) => ∀ J ks H' Hs', Ok g e ρ (kG ks :: τ) σ H' Hs' → Gives g J ds ks → R J H'
  | some (.ex c t ρ) => XP g W e τ σ c t ρ
def IJ (X : Cx) (g : Gx) (W : WX) (tg : Expr) (f : Sl → Option (Rs (List D))) (ex : Expr) : Prop :=
  ∃ wi, PI X tg ex wi ∧ ∀ e ρ τ σ H Hs (R : It → Hp → Prop), Ok g e ρ τ σ H Hs → PostI g W e τ σ (f ρ) R → wi σ H R
theorem PostI.bind {g : Gx} {W : WX} {γ δ : Type} {e : Fr0} {τ : Tm} {σ : L2.St} {gr' : γ → δ → List V × List T} {r : Option (Rs γ)} {k : γ → Sl → Option (Rs (List D))} {R : It → Hp → Prop} {Q1 : δ → Hp → Prop}
    (q : PostI g W e τ σ (bindR r k) R) (h : ∀ a ρ1, r = some (.ok a ρ1) → ∀ b H1 Hs1, Ok g e ρ1 (gr' a b :: τ) σ H1 Hs1 → PostI g W e τ σ (k a ρ1) R → Q1 b H1) : Post g W e τ σ gr' r Q1 := by
  cases r with
  | none => exact q
  | some r =>
    cases r with
    | ex c t ρ => exact q
    | ok a ρ1 => exact fun b H1 Hs1 o1 => h a ρ1 rfl b H1 Hs1 o1 q
def lstD : D → Option (List D)
  | .lst ds => some ds
  | _ => none
def tupD : D → Option (List D)
  | .tup ds => some ds
  | _ => none
def strD : D → Option (List D)
  | .str x => some (x.cps.toList.map fun c => .str ⟨#[c]⟩)
  | _ => none
def rngL (lo c : Int) : Nat → List D
  | 0 => []
  | n + 1 => .int lo :: rngL (lo + c) c n
theorem rngL_len (c : Int) : ∀ (n : Nat) (lo : Int), (rngL lo c n).length = n
  | 0, _ => rfl
  | n + 1, lo => by rw [rngL, List.length_cons, rngL_len c n]
theorem rngL_get (c : Int) : ∀ (n : Nat) (lo : Int) (i : Nat) (d : D), (rngL lo c n)[i]? = some d → i < n ∧ d = .int (lo + (i : Nat) * c)
  | 0, _, _, _, h => by simp [rngL] at h
  | n + 1, lo, 0, d, h => by
    simp [rngL] at h
    subst h
    exact ⟨by omega, by congr 1; simp⟩
  | n + 1, lo, i + 1, d, h => by
    simp only [rngL, List.getElem?_cons_succ] at h
    obtain ⟨h1, rfl⟩ := rngL_get c n (lo + c) i d h
    refine ⟨by omega, ?_⟩
    congr 1
    rw [show ((i + 1 : Nat) : Int) = (i : Int) + 1 by omega, Int.add_mul]
    omega
def smallI (i : Int) : Bool := decide (-(2 ^ 62) ≤ i) && decide (i < 2 ^ 62)
def rng1D : D → Option (List D)
  | .int j => if smallI j = true then some (rngL 0 1 j.toNat) else none
  | _ => none
def rng2D : D → D → Option (List D)
  | .int i, .int j => if smallI i = true ∧ smallI j = true then some (rngL i 1 (j - i).toNat) else none
  | _, _ => none
def rng3D : D → D → D → Option (List D)
  | .int i, .int j, .int c => if c ≠ 0 ∧ c.natAbs < 1073741824 ∧ Builtin.Range.small i j c = true ∧ 0 ≤ Builtin.Range.rangeSize i j c then some (rngL i c (Builtin.Range.rangeSize i j c).toNat) else none
  | _, _, _ => none
def enumL (k : Nat) : List D → List D
  | [] => []
  | d :: ds => .tup [.int k, d] :: enumL (k + 1) ds
theorem enumL_len : ∀ (ds : List D) (k : Nat), (enumL k ds).length = ds.length
  | [], _ => rfl
  | d :: ds, k => by rw [enumL, List.length_cons, enumL_len ds, List.length_cons]
theorem enumL_get : ∀ (ds : List D) (k i : Nat) (d : D), (enumL k ds)[i]? = some d → ∃ d0, ds[i]? = some d0 ∧ d = .tup [.int (k + i : Nat), d0]
  | [], _, _, _, h => by simp [enumL] at h
  | d0 :: ds, k, 0, d, h => by
    simp [enumL] at h
    exact ⟨d0, by simp, by rw [← h]; rfl⟩
  | d0 :: ds, k, i + 1, d, h => by
    simp only [enumL, List.getElem?_cons_succ] at h
    obtain ⟨d1, h1, rfl⟩ := enumL_get ds (k + 1) i d h
    exact ⟨d1, by simpa using h1, by rw [show k + 1 + i = k + (i + 1) by omega]⟩
def zipL : List D → List D → List D
  | d :: ds, e :: es => .tup [d, e] :: zipL ds es
  | _, _ => []
theorem zipL_len : ∀ (ds es : List D), (zipL ds es).length = min ds.length es.length
  | [], _ => by simp [zipL]
  | _ :: _, [] => by simp [zipL]
  | d :: ds, e :: es => by rw [zipL, List.length_cons, zipL_len ds es, List.length_cons, List.length_cons]; omega
theorem zipL_get : ∀ (ds es : List D) (i : Nat) (d : D), (zipL ds es)[i]? = some d → ∃ d0 e0, ds[i]? = some d0 ∧ es[i]? = some e0 ∧ d = .tup [d0, e0]
  | [], _, _, _, h => by simp [zipL] at h
  | _ :: _, [], _, _, h => by simp [zipL] at h
  | d0 :: ds, e0 :: es, 0, d, h => by
    simp [zipL] at h
    exact ⟨d0, e0, by simp, by simp, h.symm⟩
  | d0 :: ds, e0 :: es, i + 1, d, h => by
    simp only [zipL, List.getElem?_cons_succ] at h
    obtain ⟨d1, e1, h1, h2, rfl⟩ := zipL_get ds es i d h
    exact ⟨d1, e1, by simpa using h1, by simpa using h2, rfl⟩
section
variable {X : Cx} {g : Gx} {c : Cxt} {W : WX} {tg e1 e2 e3 ex : Expr} {fa fb fd : Sl → Option (Rs T)} {pos p : Pos}
theorem RepTs.kept {Hs H : Hp} : ∀ {ks : Ks} {f : List Addr}, RepTs g Hs H (ks.map fun p => T.fz p.2) (ks.map (·.1)) f → Kept g Hs ks
  | [], _, _ => fun _ h => nomatch h
  | (v, d) :: ks, f, r => by
    simp only [List.map_cons, RepTs] at r
    obtain ⟨v', vs', f1, f2, e, _, q, r⟩ := r
    obtain ⟨rfl, rfl⟩ := List.cons.inj e
    simp only [RepT] at q
    intro p hp
    rcases List.mem_cons.mp hp with rfl | hp
    · exact q.1
    · exact RepTs.kept r p hp
theorem Ok.kept {e : Fr0} {ρ : Sl} {τ : Tm} {σ : L2.St} {H Hs : Hp} {ks : Ks} (o : Ok g e ρ (kG ks :: τ) σ H Hs) : Kept g Hs ks := by
  obtain ⟨fs, ft, _, r, _⟩ := o.own
  obtain ⟨f, f', _, r, _⟩ := r
  exact RepTs.kept r
theorem gives_still {J : It} {ds : List D} {ks : Ks} (hg : ∀ i H Hs, Kept g Hs ks → Same Hs H → ∀ d, ds[i]? = some d → J.go i H ∧ ∀ x H', J.yld i H x H' → H' = H ∧ Rep g Hs d x) (hs : ∀ H Hs, Kept g Hs ks → Same Hs H → J.stop ds.length H) : Gives g J ds ks := by
  intro i H Hs h1 h2
  refine ⟨fun d hd => ?_, fun hi => by subst hi; exact hs H Hs h1 h2⟩
  obtain ⟨a, b⟩ := hg i H Hs h1 h2 d hd
  refine ⟨a, fun x H' hy => ?_⟩
  obtain ⟨rfl, r⟩ := b x H' hy
  exact ⟨Hs, fun _ _ => rfl, Same.refl _, h2, fun _ z => .inl z, r⟩
theorem kept_lst {Hs : Hp} {a : Addr} {ds : List D} {ks : Ks} (h : Kept g Hs ks) (m : (V.ref a, D.lst ds) ∈ ks) : ∃ vs, SqL g.K Hs a vs ∧ Reps g Hs ds vs := by
  have := h _ m
  simp only [Rep] at this
  obtain ⟨a', vs, e, q, r⟩ := this
  cases e
  exact ⟨vs, .inl q, r⟩
theorem kept_tup {Hs : Hp} {a : Addr} {ds : List D} {ks : Ks} (h : Kept g Hs ks) (m : (V.ref a, D.tup ds) ∈ ks) : ∃ vs, SqT g.K Hs a vs ∧ Reps g Hs ds vs := by
  have := h _ m
  simp only [Rep] at this
  obtain ⟨a', vs, e, q, r⟩ := this
  cases e
  exact ⟨vs, q, r⟩
theorem gives_list (hk : g.K = X.K) {a : Addr} {ds : List D} {ks : Ks} (m : (V.ref a, D.lst ds) ∈ ks) : Gives g (Itl X.K a) ds ks := by
  refine gives_still (fun i H Hs kp s d hd => ?_) (fun H Hs kp s => ?_)
  · obtain ⟨vs, sq, r⟩ := kept_lst kp m
    obtain ⟨v, hv, rv⟩ := r.at_ i d hd
    refine ⟨⟨vs, v, hk ▸ Same.sqL s sq, hv⟩, fun x H' hy => ?_⟩
    obtain ⟨rfl, hy⟩ := hy
    have := hy vs (hk ▸ Same.sqL s sq)
    rw [hv] at this
    cases this
    exact ⟨rfl, rv⟩
  · obtain ⟨vs, sq, r⟩ := kept_lst kp m
    exact ⟨vs, hk ▸ Same.sqL s sq, by rw [r.length]; exact Nat.le_refl _⟩
theorem gives_tup (hk : g.K = X.K) {a : Addr} {ds : List D} {ks : Ks} (m : (V.ref a, D.tup ds) ∈ ks) : Gives g (Itt X.K a) ds ks := by
  refine gives_still (fun i H Hs kp s d hd => ?_) (fun H Hs kp s => ?_)
  · obtain ⟨vs, sq, r⟩ := kept_tup kp m
    obtain ⟨v, hv, rv⟩ := r.at_ i d hd
    refine ⟨⟨vs, v, hk ▸ Same.sqT s sq, hv⟩, fun x H' hy => ?_⟩
    obtain ⟨rfl, hy⟩ := hy
    have := hy vs (hk ▸ Same.sqT s sq)
    rw [hv] at this
    cases this
    exact ⟨rfl, rv⟩
  · obtain ⟨vs, sq, r⟩ := kept_tup kp m
    exact ⟨vs, hk ▸ Same.sqT s sq, by rw [r.length]; exact Nat.le_refl _⟩
theorem gives_rev (hk : g.K = X.K) {a : Addr} {ds : List D} {ks : Ks} (m : (V.ref a, D.lst ds) ∈ ks) : Gives g (Itv X.K a ds.length) ds.reverse ks := by
  refine gives_still (fun i H Hs kp s d hd => ?_) (fun H Hs kp s => by show ds.length ≤ _; rw [List.length_reverse]; exact Nat.le_refl _)
  obtain ⟨vs, sq, r⟩ := kept_lst kp m
  have hi : i < ds.length := by
    have := (List.getElem?_eq_some_iff.mp hd).1
    simpa using this
  rw [List.getElem?_reverse hi] at hd
  obtain ⟨v, hv, rv⟩ := r.at_ _ d hd
  refine ⟨⟨by omega, vs, v, hk ▸ Same.sqL s sq, hv⟩, fun x H' hy => ?_⟩
  obtain ⟨rfl, hy⟩ := hy
  have := hy vs (hk ▸ Same.sqL s sq)
  rw [hv] at this
  cases this
  exact ⟨rfl, rv⟩
theorem gives_rng {ks : Ks} (lo c : Int) (n : Nat) : Gives g (Itc lo c n) (rngL lo c n) ks := by
  refine gives_still (fun i H Hs _ s d hd => ?_) (fun H Hs _ s => by show n ≤ _; rw [rngL_len]; exact Nat.le_refl _)
  obtain ⟨h1, rfl⟩ := rngL_get c n lo i d hd
  refine ⟨h1, fun x H' hy => ?_⟩
  obtain ⟨rfl, rfl⟩ := hy
  exact ⟨rfl, by simp only [Rep]⟩
theorem gives_rng1 {ks : Ks} (lo : Int) (n : Nat) : Gives g (Itr lo n) (rngL lo 1 n) ks := by
  refine gives_still (fun i H Hs _ s d hd => ?_) (fun H Hs _ s => by show n ≤ _; rw [rngL_len]; exact Nat.le_refl _)
  obtain ⟨h1, rfl⟩ := rngL_get 1 n lo i d hd
  refine ⟨h1, fun x H' hy => ?_⟩
  obtain ⟨rfl, rfl⟩ := hy
  exact ⟨rfl, by simp only [Rep]; rw [Int.mul_one]⟩
theorem gives_str {ks : Ks} (x : Str) : Gives g (Its x) (x.cps.toList.map fun c => .str ⟨#[c]⟩) ks := by
  refine gives_still (fun i H Hs _ s d hd => ?_) (fun H Hs _ s => by show x.cps.size ≤ _; rw [List.length_map, Array.length_toList]; exact Nat.le_refl _)
  rw [List.getElem?_map, Option.map_eq_some_iff] at hd
  obtain ⟨c, hc, rfl⟩ := hd
  rw [Array.getElem?_toList] at hc
  have h1 := (Array.getElem?_eq_some_iff.mp hc).1
  refine ⟨h1, fun v H' hy => ?_⟩
  obtain ⟨rfl, c', h2, rfl⟩ := hy
  rw [hc] at h2
  cases h2
  exact ⟨rfl, by simp only [Rep]⟩
/-- a new tuple comes each turn -/
theorem gives_pair {J : It} {ds : List D} {ks : Ks} (hg : ∀ i H Hs, Kept g Hs ks → Same Hs H → ∀ d, ds[i]? = some d → J.go i H ∧ ∀ x H', J.yld i H x H' → ∃ T u d1 d2, d = .tup [d1, d2] ∧ x = .ref T ∧ H T = none ∧ H' = upd H T (.tup u) ∧ Reps g Hs [d1, d2] u) (hs : ∀ H Hs, Kept g Hs ks → Same Hs H → J.stop ds.length H) : Gives g J ds ks := by
  intro i H Hs h1 h2
  refine ⟨fun d hd => ?_, fun hi => by subst hi; exact hs H Hs h1 h2⟩
  obtain ⟨a, b⟩ := hg i H Hs h1 h2 d hd
  refine ⟨a, fun x H' hy => ?_⟩
  obtain ⟨T, u, d1, d2, rfl, rfl, hT, rfl, r⟩ := b x H' hy
  have hTs : Hs T = none := by
    cases q : Hs T with
    | none => rfl
    | some y => have := h2 T y q; rw [hT] at this; cases this
  refine ⟨upd Hs T (.tup u), upd_keep hT, Same_upd hTs, fun a y q => ?_, fun a q => ?_, ?_⟩
  · by_cases z : a = T
    · subst z; rw [upd_same] at q ⊢; exact q
    · rw [upd_ne z] at q ⊢; exact h2 a y q
  · by_cases z : a = T
    · subst z; exact .inr hT
    · rw [upd_ne z] at q; exact .inl q
  · simp only [Rep]
    exact ⟨T, u, rfl, SqT.of upd_same, Reps.mono (Same_upd hTs) r⟩
theorem gives_enum (hk : g.K = X.K) {a : Addr} {ds : List D} {ks : Ks} (m : (V.ref a, D.lst ds) ∈ ks) : Gives g (Ite X.K a) (enumL 0 ds) ks := by
  refine gives_pair (fun i H Hs kp s d hd => ?_) (fun H Hs kp s => ?_)
  · obtain ⟨vs, sq, r⟩ := kept_lst kp m
    obtain ⟨d0, h0, rfl⟩ := enumL_get ds 0 i d hd
    obtain ⟨v, hv, rv⟩ := r.at_ i d0 h0
    refine ⟨⟨vs, v, hk ▸ Same.sqL s sq, hv⟩, fun x H' hy => ?_⟩
    obtain ⟨T, y, rfl, hT, rfl, hy⟩ := hy
    have := hy vs (hk ▸ Same.sqL s sq)
    rw [hv] at this
    cases this
    refine ⟨T, _, _, _, rfl, rfl, hT, rfl, ?_⟩
    simp only [Reps]
    exact ⟨_, _, rfl, by simp only [Rep, Nat.zero_add], _, _, rfl, rv, rfl⟩
  · obtain ⟨vs, sq, r⟩ := kept_lst kp m
    exact ⟨vs, hk ▸ Same.sqL s sq, by rw [r.length, enumL_len]; exact Nat.le_refl _⟩
theorem gives_zip (hk : g.K = X.K) {a b : Addr} {ds es : List D} {ks : Ks} (m : (V.ref a, D.lst ds) ∈ ks) (m2 : (V.ref b, D.lst es) ∈ ks) : Gives g (Itz X.K a b) (zipL ds es) ks := by
  refine gives_pair (fun i H Hs kp s d hd => ?_) (fun H Hs kp s => ?_)
  · obtain ⟨vs, sq, r⟩ := kept_lst kp m
    obtain ⟨ws, sq2, r2⟩ := kept_lst kp m2
    obtain ⟨d0, e0, h0, h1, rfl⟩ := zipL_get ds es i d hd
    obtain ⟨v, hv, rv⟩ := r.at_ i d0 h0
    obtain ⟨w, hw, rw'⟩ := r2.at_ i e0 h1
    refine ⟨⟨vs, ws, v, w, hk ▸ Same.sqL s sq, hk ▸ Same.sqL s sq2, hv, hw⟩, fun x H' hy => ?_⟩
    obtain ⟨T, y, z, rfl, hT, rfl, hy, hz⟩ := hy
    have e1 := hy vs (hk ▸ Same.sqL s sq)
    have e2 := hz ws (hk ▸ Same.sqL s sq2)
    rw [hv] at e1
    rw [hw] at e2
    cases e1
    cases e2
    refine ⟨T, _, _, _, rfl, rfl, hT, rfl, ?_⟩
    simp only [Reps]
    exact ⟨_, _, rfl, rv, _, _, rfl, rw', rfl⟩
  · obtain ⟨vs, sq, r⟩ := kept_lst kp m
    obtain ⟨ws, sq2, r2⟩ := kept_lst kp m2
    exact ⟨vs, ws, hk ▸ Same.sqL s sq, hk ▸ Same.sqL s sq2, by rw [r.length, r2.length, zipL_len]; omega⟩
theorem gives_zipT (hk : g.K = X.K) {a b : Addr} {ds es : List D} {ks : Ks} (m : (V.ref a, D.tup ds) ∈ ks) (m2 : (V.ref b, D.tup es) ∈ ks) : Gives g (RZ.ItzT X.K a b) (zipL ds es) ks := by
  refine gives_pair (fun i H Hs kp s d hd => ?_) (fun H Hs kp s => ?_)
  · obtain ⟨vs, sq, r⟩ := kept_tup kp m
    obtain ⟨ws, sq2, r2⟩ := kept_tup kp m2
    obtain ⟨d0, e0, h0, h1, rfl⟩ := zipL_get ds es i d hd
    obtain ⟨v, hv, rv⟩ := r.at_ i d0 h0
    obtain ⟨w, hw, rw'⟩ := r2.at_ i e0 h1
    refine ⟨⟨vs, ws, v, w, hk ▸ Same.sqT s sq, hk ▸ Same.sqT s sq2, hv, hw⟩, fun x H' hy => ?_⟩
    obtain ⟨T, y, z, rfl, hT, rfl, hy, hz⟩ := hy
    have e1 := hy vs (hk ▸ Same.sqT s sq)
    have e2 := hz ws (hk ▸ Same.sqT s sq2)
    rw [hv] at e1
    rw [hw] at e2
    cases e1
    cases e2
    refine ⟨T, _, _, _, rfl, rfl, hT, rfl, ?_⟩
    simp only [Reps]
    exact ⟨_, _, rfl, rv, _, _, rfl, rw', rfl⟩
  · obtain ⟨vs, sq, r⟩ := kept_tup kp m
    obtain ⟨ws, sq2, r2⟩ := kept_tup kp m2
    exact ⟨vs, ws, hk ▸ Same.sqT s sq, hk ▸ Same.sqT s sq2, by rw [r.length, r2.length, zipL_len]; omega⟩

/-! the iterables of the text: what is walked is frozen -/
theorem ij_lst (k : Cp X g c) (ha : CJ X g W fa ex) : IJ X g W tg (fun ρ => bindR (fa ρ) fun t ρ1 => okR (lstD t.d) ρ1) ex := by
  obtain ⟨ta, pa, ra⟩ := ha
  refine ⟨_, pi_list pa, fun e ρ τ σ H Hs R o q => ?_⟩
  refine ra e ρ τ σ H Hs _ o (PostI.bind q fun x ρ1 _ v H1 Hs1 o1 q1 => ?_)
  cases hd : x.d <;> rw [hd] at q1 <;> try exact q1.elim
  rename_i ds
  obtain ⟨Hs2, _, o2⟩ := o1.freeze
  obtain ⟨f, r⟩ := o2.top
  rw [hd] at r o2
  simp only [RepT, Rep] at r
  obtain ⟨⟨a, vs, rfl, sq, r⟩, _⟩ := r
  exact ⟨a, rfl, ⟨vs, k.hk ▸ Same.sqL o2.sub (.inl sq)⟩, q1 _ [(.ref a, .lst ds)] H1 Hs2 o2 (gives_list k.hk (by simp))⟩
theorem ij_tup (k : Cp X g c) (ha : CJ X g W fa ex) : IJ X g W tg (fun ρ => bindR (fa ρ) fun t ρ1 => okR (tupD t.d) ρ1) ex := by
  obtain ⟨ta, pa, ra⟩ := ha
  refine ⟨_, pi_tup pa, fun e ρ τ σ H Hs R o q => ?_⟩
  refine ra e ρ τ σ H Hs _ o (PostI.bind q fun x ρ1 _ v H1 Hs1 o1 q1 => ?_)
  cases hd : x.d <;> rw [hd] at q1 <;> try exact q1.elim
  rename_i ds
  obtain ⟨Hs2, _, o2⟩ := o1.freeze
  obtain ⟨f, r⟩ := o2.top
  rw [hd] at r o2
  simp only [RepT, Rep] at r
  obtain ⟨⟨a, vs, rfl, sq, r⟩, _⟩ := r
  exact ⟨a, rfl, ⟨vs, k.hk ▸ Same.sqT o2.sub sq⟩, q1 _ [(.ref a, .tup ds)] H1 Hs2 o2 (gives_tup k.hk (by simp))⟩
theorem ij_str (ha : CJ X g W fa ex) : IJ X g W tg (fun ρ => bindR (fa ρ) fun t ρ1 => okR (strD t.d) ρ1) ex := by
  obtain ⟨ta, pa, ra⟩ := ha
  refine ⟨_, pi_str pa, fun e ρ τ σ H Hs R o q => ?_⟩
  refine ra e ρ τ σ H Hs _ o (PostI.bind q fun x ρ1 _ v H1 Hs1 o1 q1 => ?_)
  obtain ⟨f, r⟩ := o1.top
  have r := r.now o1.sub
  cases hd : x.d <;> rw [hd] at q1 r <;> try exact q1.elim
  rename_i s
  simp only [Rep] at r
  exact ⟨s, r, q1 _ [] H1 Hs1 o1.drop.nilG (gives_str s)⟩
theorem ij_rng1 (k : Cp X g c) (hg : glB c "range" = true) (hs : starB e1 = false) (ha : CJ X g W fa e1) : IJ X g W tg (fun ρ => bindR (fa ρ) fun t ρ1 => okR (rng1D t.d) ρ1) (.Call (.Name "range" p) [e1] [] pos) := by
  obtain ⟨ta, pa, ra⟩ := ha
  refine ⟨_, pi_range1 (k.gl hg) (k.bn _ (by decide)) (pa_one pa hs) (star_cons hs), fun e ρ τ σ H Hs R o q => ?_⟩
  refine ra e ρ τ σ H Hs _ o (PostI.bind q fun x ρ1 _ v H1 Hs1 o1 q1 => ?_)
  obtain ⟨f, r⟩ := o1.top
  have r := r.now o1.sub
  cases hd : x.d <;> rw [hd] at q1 r <;> try exact q1.elim
  rename_i j
  simp only [Rep] at r
  subst r
  simp only [rng1D] at q1
  split at q1
  · rename_i hz
    simp only [smallI, Bool.and_eq_true, decide_eq_true_eq] at hz
    exact ⟨j, rfl, hz.1, hz.2, q1 _ [] H1 Hs1 o1.drop.nilG (gives_rng1 _ _)⟩
  · exact q1.elim
theorem ij_rng2 (k : Cp X g c) (hg : glB c "range" = true) (hs : starB e1 = false) (hs2 : starB e2 = false) (ha : CJ X g W fa e1) (hb : CJ X g W fb e2) : IJ X g W tg (fun ρ => bindR (fa ρ) fun t ρ1 => bindR (fb ρ1) fun u ρ2 => okR (rng2D t.d u.d) ρ2) (.Call (.Name "range" p) [e1, e2] [] pos) := by
  obtain ⟨ta, pa, ra⟩ := ha
  obtain ⟨tb, pb, rb⟩ := hb
  refine ⟨_, pi_range2 (k.gl hg) (k.bn _ (by decide)) (pa_two pa pb hs hs2) (by rw [star_cons hs, star_cons hs2]; rfl) (by rw [star_cons hs2]; rfl), fun e ρ τ σ H Hs R o q => ?_⟩
  refine ra e ρ τ σ H Hs _ o (PostI.bind q fun x ρ1 _ v H1 Hs1 o1 q1 => ?_)
  refine rb e ρ1 _ σ H1 Hs1 _ o1 ?_
  cases h2 : fb ρ1 with
  | none => rw [h2] at q1; exact q1
  | some r2 =>
    rw [h2] at q1
    cases r2 with
    | ex c t' ρ' => exact XP.drop q1
    | ok y ρ2 =>
      intro w H2 Hs2 o2
      obtain ⟨f2, r2⟩ := o2.top
      obtain ⟨f1, r1⟩ := o2.swap.top
      have r2 := r2.now o2.sub
      have r1 := r1.now o2.sub
      simp only [bindR] at q1
      unfold rng2D at q1
      split at q1
      · rename_i i j hx hy
        rw [hx] at r1
        rw [hy] at r2
        simp only [Rep] at r1 r2
        subst r1
        subst r2
        split at q1
        · rename_i hz
          simp only [smallI, Bool.and_eq_true, decide_eq_true_eq] at hz
          exact ⟨i, j, rfl, ⟨hz.1.1, hz.1.2, hz.2.1, hz.2.2⟩, q1 _ [] H2 Hs2 o2.drop.drop.nilG (gives_rng1 _ _)⟩
        · exact q1.elim
      · exact q1.elim
theorem ij_rng3 (k : Cp X g c) (hg : glB c "range" = true) (hs : starB e1 = false) (hs2 : starB e2 = false) (hs3 : starB e3 = false) (ha : CJ X g W fa e1) (hb : CJ X g W fb e2) (hd : CJ X g W fd e3) :
    IJ X g W tg (fun ρ => bindR (fa ρ) fun t ρ1 => bindR (fb ρ1) fun u ρ2 => bindR (fd ρ2) fun w ρ3 => okR (rng3D t.d u.d w.d) ρ3) (.Call (.Name "range" p) [e1, e2, e3] [] pos) := by
  obtain ⟨ta, pa, ra⟩ := ha
  obtain ⟨tb, pb, rb⟩ := hb
  obtain ⟨td, pd, rd⟩ := hd
  refine ⟨_, pi_range3 (k.gl hg) (k.bn _ (by decide)) (pa_cons pa (pa_two pb pd hs2 hs3) (star_cons hs)) (star_cons hs) (star_none fun x hx => by simp at hx; rcases hx with rfl | rfl <;> assumption), fun e ρ τ σ H Hs R o q => ?_⟩
  refine ra e ρ τ σ H Hs _ o (PostI.bind q fun x ρ1 _ v H1 Hs1 o1 q1 => ?_)
  refine rb e ρ1 _ σ H1 Hs1 _ o1 ?_
  cases h2 : fb ρ1 with
  | none => rw [h2] at q1; exact q1
  | some r2 =>
    rw [h2] at q1
    cases r2 with
    | ex c t' ρ' => exact XP.drop q1
    | ok y ρ2 =>
      intro w H2 Hs2 o2
      simp only [bindR] at q1
      refine rd e ρ2 _ σ H2 Hs2 _ o2 ?_
      cases h3 : fd ρ2 with
      | none => rw [h3] at q1; exact q1
      | some r3 =>
        rw [h3] at q1
        cases r3 with
        | ex c t' ρ' => exact XP.drop (XP.drop q1)
        | ok z ρ3 =>
          intro u H3 Hs3 o3
          obtain ⟨f3, r3⟩ := o3.top
          obtain ⟨f2, r2⟩ := o3.swap.top
          obtain ⟨f1, r1⟩ := o3.drop.swap.top
          have r3 := r3.now o3.sub
          have r2 := r2.now o3.sub
          have r1 := r1.now o3.sub
          simp only [bindR] at q1
          unfold rng3D at q1
          split at q1
          · rename_i i j c hx hy hz
            rw [hx] at r1
            rw [hy] at r2
            rw [hz] at r3
            simp only [Rep] at r1 r2 r3
            subst r1
            subst r2
            subst r3
            split at q1
            · rename_i hz
              exact ⟨i, j, c, _, rfl, ⟨hz.1, hz.2.1, hz.2.2.1, (Int.toNat_of_nonneg hz.2.2.2).symm⟩, q1 _ [] H3 Hs3 o3.drop.drop.drop.nilG (gives_rng _ _ _)⟩
            · exact q1.elim
          · exact q1.elim
theorem ij_rev (k : Cp X g c) (hg : glB c "reversed" = true) (hm : X.mg "reversed" = none) (hs : starB e1 = false) (ha : CJ X g W fa e1) : IJ X g W tg (fun ρ => bindR (fa ρ) fun t ρ1 => okR ((lstD t.d).map List.reverse) ρ1) (.Call (.Name "reversed" p) [e1] [] pos) := by
  obtain ⟨ta, pa, ra⟩ := ha
  refine ⟨_, pi_reversed (k.gl hg) hm (pa_one pa hs) (star_cons hs), fun e ρ τ σ H Hs R o q => ?_⟩
  refine ra e ρ τ σ H Hs _ o (PostI.bind q fun x ρ1 _ v H1 Hs1 o1 q1 => ?_)
  cases hd : x.d <;> rw [hd] at q1 <;> try exact q1.elim
  rename_i ds
  obtain ⟨Hs2, _, o2⟩ := o1.freeze
  obtain ⟨f, r⟩ := o2.top
  rw [hd] at r o2
  simp only [RepT, Rep] at r
  obtain ⟨⟨a, vs, rfl, sq, r⟩, _⟩ := r
  refine ⟨a, vs, rfl, k.hk ▸ Same.sqL o2.sub (.inl sq), ?_⟩
  rw [r.length]
  exact q1 _ [(.ref a, .lst ds)] H1 Hs2 o2 (gives_rev k.hk (by simp))
theorem ij_enum {elts : List Expr} {kk : Nat} {tpos : Pos} (k : Cp X g c) (hg : glB c "enumerate" = true) (hs : starB e1 = false) (ha : CJ X g W fa e1) : IJ X g W (.Tuple elts kk tpos) (fun ρ => bindR (fa ρ) fun t ρ1 => okR ((lstD t.d).map (enumL 0)) ρ1) (.Call (.Name "enumerate" p) [e1] [] pos) := by
  obtain ⟨ta, pa, ra⟩ := ha
  refine ⟨_, pi_enum (k.gl hg) (k.bn _ (by decide)) (pa_one pa hs) (star_cons hs), fun e ρ τ σ H Hs R o q => ?_⟩
  refine ra e ρ τ σ H Hs _ o (PostI.bind q fun x ρ1 _ v H1 Hs1 o1 q1 => ?_)
  cases hd : x.d <;> rw [hd] at q1 <;> try exact q1.elim
  rename_i ds
  obtain ⟨Hs2, _, o2⟩ := o1.freeze
  obtain ⟨f, r⟩ := o2.top
  rw [hd] at r o2
  simp only [RepT, Rep] at r
  obtain ⟨⟨a, vs, rfl, sq, r⟩, _⟩ := r
  exact ⟨a, vs, rfl, k.hk ▸ Same.sqL o2.sub (.inl sq), q1 _ [(.ref a, .lst ds)] H1 Hs2 o2 (gives_enum k.hk (by simp))⟩
def zipD : D → D → Option (List D)
  | .lst ds, .lst es => some (zipL ds es)
  | .tup ds, .tup es => some (zipL ds es)
  | _, _ => none
theorem ij_zip {elts : List Expr} {kk : Nat} {tpos : Pos} (k : Cp X g c) (hg : glB c "zip" = true) (hs : starB e1 = false) (hs2 : starB e2 = false) (ha : CJ X g W fa e1) (hb : CJ X g W fb e2) :
    IJ X g W (.Tuple elts kk tpos) (fun ρ => bindR (fa ρ) fun t ρ1 => bindR (fb ρ1) fun u ρ2 => okR (zipD t.d u.d) ρ2) (.Call (.Name "zip" p) [e1, e2] [] pos) := by
  obtain ⟨ta, pa, ra⟩ := ha
  obtain ⟨tb, pb, rb⟩ := hb
  refine ⟨_, RZ.pi_zipA (k.gl hg) (k.bn _ (by decide)) (pa_two pa pb hs hs2) (star_cons hs) (star_none fun x hx => by simp at hx; subst hx; exact hs2), fun e ρ τ σ H Hs R o q => ?_⟩
  refine ra e ρ τ σ H Hs _ o (PostI.bind q fun x ρ1 _ v H1 Hs1 o1 q1 => ?_)
  refine rb e ρ1 _ σ H1 Hs1 _ o1 ?_
  cases h2 : fb ρ1 with
  | none => rw [h2] at q1; exact q1
  | some r2 =>
    rw [h2] at q1
    cases r2 with
    | ex c t' ρ' => exact XP.drop q1
    | ok y ρ2 =>
      intro w H2 Hs2 o2
      obtain ⟨Hs3, _, o3⟩ := o2.freeze
      obtain ⟨Hs4, _, o4⟩ := o3.swap.freeze
      obtain ⟨f1, r1⟩ := o4.top
      obtain ⟨f2, r2⟩ := o4.swap.top
      simp only [bindR] at q1
      unfold zipD at q1
      split at q1
      · rename_i ds es hx hy
        rw [hx] at r1 o4
        rw [hy] at r2 o4
        simp only [RepT, Rep] at r1 r2
        obtain ⟨⟨a, vs, rfl, sq, r1⟩, _⟩ := r1
        obtain ⟨⟨b, ws, rfl, sq2, r2⟩, _⟩ := r2
        exact ⟨a, b, vs, ws, rfl, .inl ⟨k.hk ▸ Same.sqL o4.sub (.inl sq), k.hk ▸ Same.sqL o4.sub (.inl sq2), q1 _ [(.ref b, .lst es), (.ref a, .lst ds)] H2 Hs4 o4.merge (gives_zip k.hk (by simp) (by simp))⟩⟩
      · rename_i ds es hx hy
        rw [hx] at r1 o4
        rw [hy] at r2 o4
        simp only [RepT, Rep] at r1 r2
        obtain ⟨⟨a, vs, rfl, sq, r1⟩, _⟩ := r1
        obtain ⟨⟨b, ws, rfl, sq2, r2⟩, _⟩ := r2
        exact ⟨a, b, vs, ws, rfl, .inr ⟨k.hk ▸ Same.sqT o4.sub sq, k.hk ▸ Same.sqT o4.sub sq2, q1 _ [(.ref b, .tup es), (.ref a, .tup ds)] H2 Hs4 o4.merge (gives_zipT k.hk (by simp) (by simp))⟩⟩
      · exact q1.elim
end

/-! ### for -/
def forF (st : T → Sl → Option Sl) (fb : Sl → Option Fl) : List D → Sl → Option Fl
  | [], ρ => some (.nx ρ)
  | d :: ds, ρ => match st (.fz d) ρ with
    | none => none
    | some ρ1 => match fb ρ1 with
      | some (.nx ρ2) => forF st fb ds ρ2
      | some (.ct ρ2) => forF st fb ds ρ2
      | some (.bk ρ2) => some (.nx ρ2)
      | some (.ret t ρ2) => some (.ret t ρ2)
      | some (.ex c t ρ2) => some (.ex c t ρ2)
      | none => none
theorem sj_for {X : Cx} {g : Gx} {c : Cxt} {W : WX} {tg iter : Expr} {pos : Pos} {fi : Sl → Option (Rs (List D))} {G : Tg} {fb : Sl → Option Fl} {body : List Stmt} (k : Cp X g c) (hpo : PassesOwn (model X.prog X.w) X.A X.env X.xe) (hs : ∀ x, foldedSetIterable iter X.env x = pure x) (hi : IJ X g W tg fi iter) (hg : GJ X g c G tg) (hb : SsJ X g c W fb body) :
    SJ X g c W (fun ρ => bindE (fi ρ) fun ds ρ1 => forF (stT G) fb ds ρ1) (.For tg iter body [] pos) := by
  obtain ⟨wi, pi, ri⟩ := hi
  obtain ⟨gt, pg, rg⟩ := hg
  obtain ⟨tb, pb, rb⟩ := hb
  refine ⟨_, ps_for hpo k.calm pi pg pb hs, fun e ρ τ σ H Hs D hp o q => ?_⟩
  refine ri e ρ τ σ H Hs _ o ?_
  dsimp only at q
  cases h : fi ρ with
  | none => rw [h] at q; exact q
  | some r =>
    rw [h] at q
    cases r with
    | ex c t ρ' => exact fun v dx H' Hs' o' hd => q v dx σ H' Hs' o' hd
    | ok ds ρ1 =>
      intro J ks H1 S1 o1 gv
      simp only [bindE] at q
      refine ⟨fun i m σ H => ∃ ρ Hs, i + m = ds.length ∧ Ok g e ρ (kG ks :: τ) σ H Hs ∧ PostS g W e τ D (forF (stT G) fb (ds.drop i) ρ), ⟨ds.length, ρ1, S1, by omega, o1, q⟩, ?_⟩
      rintro i m σ H ⟨ρ, Hs, him, o, q⟩
      obtain ⟨g1, g2⟩ := gv i H Hs o.kept o.sub
      cases hd : ds[i]? with
      | none =>
        have hi : i = ds.length := by
          have := List.getElem?_eq_none_iff.mp hd
          omega
        refine .inl ⟨g2 hi, ?_⟩
        rw [hi, List.drop_length] at q
        exact q σ H Hs o.drop
      | some d =>
        have hi : i < ds.length := (List.getElem?_eq_some_iff.mp hd).1
        obtain ⟨g3, g4⟩ := g1 d hd
        rw [List.drop_eq_getElem_cons hi] at q
        have hd' : ds[i] = d := (List.getElem?_eq_some_iff.mp hd).2
        rw [hd'] at q
        simp only [forF] at q
        refine .inr ⟨g3, fun σ' H' => ∃ ρ Hs, Ok g e ρ (kG ks :: τ) σ' H' Hs ∧ PostS g W e τ D (forF (stT G) fb (ds.drop (i + 1)) ρ), fun σ' H' ⟨ρ', Hs', o', q'⟩ => ⟨m - 1, by omega, ρ', Hs', by omega, o', q'⟩, fun x H' hy => ?_⟩
        obtain ⟨Hs', k1, k2, k3, k4, rx⟩ := g4 x H' hy
        have o2 := (o.step k1 k2 k3 k4).push rx
        cases hst : stT G (.fz d) ρ with
        | none => rw [hst] at q; exact q.elim
        | some ρ2 =>
          rw [hst] at q
          simp only at q
          refine rg e ρ _ σ H' Hs' x (.fz d) _ hp o2 ⟨ρ2, hst, fun σ2 _ o3 => rb e ρ2 _ σ2 H' Hs' _ hp o3 ?_⟩
          cases h2 : fb ρ2 with
          | none => rw [h2] at q; exact q
          | some r2 =>
            rw [h2] at q
            cases r2 with
            | nx ρ3 => exact fun σ' H' Hs' o' => ⟨ρ3, Hs', o', q⟩
            | ct ρ3 => exact fun σ' H' Hs' o' => ⟨ρ3, Hs', o', q⟩
            | bk ρ3 => exact fun σ' H' Hs' o' => q σ' H' Hs' o'.drop
            | ret t ρ3 => exact fun v σ' H' Hs' o' => q v σ' H' Hs' o'.swap.drop
            | ex c t ρ3 => exact fun v dx σ' H' Hs' o' hd => q v dx σ' H' Hs' o'.swap.drop hd
end DL
namespace DL
open PySem PySem.Spec L2

/-! ### comprehensions -/
def blkLook (c : Cxt) (scope : Scope) : List (Str × NameKind) :=
  scope.names.map fun p => if (p.2 == .free && c.look.lookup p.1 == some .cell) = true then (p.1, .cell) else p
def Cxt.inB (c : Cxt) (scope : Scope) : Cxt := { c with look := blkLook c scope, blk := some scope.names }
abbrev W0 : WX := fun _ _ _ _ => False
section
variable {X : Cx} {g : Gx} {c : Cxt} {W : WX} {tg iter elt e1 e2 ex : Expr} {fa fb fd : Sl → Option (Rs T)} {pos p : Pos} {scope : Scope}
theorem lookup_relab {sc : Scope} (c : Cxt) {env : PySem.Env} (hk : env.scope.kind = .function) (hs : ∀ x, env.scope.names.lookup x = c.look.lookup x) : (relabel sc env).names = blkLook c sc := by
  unfold relabel blkLook
  apply List.map_congr_left
  intro p hp
  obtain ⟨n, k⟩ := p
  simp only [PySem.Env.kindOf, hk, hs, beq_self_eq_true, Bool.and_true]
theorem Cp.blk (k : Cp X g c) (ok : BlkOk X.N X.env.scope scope own) (s : Shared) (H : Hp) (C : Addr) (cl : List (Str × Addr)) (fp : List Addr) : Cp (X.blk s H scope (compEnvC scope cl C X.env) fp) g (c.inB scope) where
  N := k.N
  nd := k.nd
  sc := fun x => by
    show (relabel scope X.env).names.lookup x = _
    rw [lookup_relab c k.kind k.sc]
    rfl
  calm := k.calm
  hk := k.hk
  hu := k.hu
  bn := k.bn
  kind := ok.kind
  gd := k.gd
  fn := fun x hx => by
    unfold stoB at hx
    simp only [Cxt.inB, Bool.or_eq_true, Bool.and_eq_true, beq_iff_eq] at hx
    rcases hx with hx | hx
    · refine .inr ?_
      show (relabel scope X.env).names.lookup x = _
      rw [lookup_relab c k.kind k.sc]
      exact hx
    · exact .inl (by show (scope.names.lookup x == some .cell) = true; rw [hx.2]; rfl)
  con := k.con
theorem takes0 {X : Cx} : Takes X W0 := fun u s' ⟨_, _, _, _, _, _, _, _, _, _, _, _, _, _, _, _, w⟩ => w.elim

/-! slots forgotten -/
def wipeT (ρ : Sl) : List Nat → Sl
  | [] => ρ
  | v :: vs => (wipeT ρ vs).set v none
theorem wipeT_len (ρ : Sl) : ∀ vs, (wipeT ρ vs).length = ρ.length
  | [] => rfl
  | v :: vs => by rw [wipeT, List.length_set, wipeT_len ρ vs]
theorem wipeT_at (ρ : Sl) : ∀ (vs : List Nat) (j : Nat) (t : T), (wipeT ρ vs)[j]? = some (some t) → j ∉ vs
  | [], _, _, _ => by simp
  | v :: vs, j, t, h => by
    rw [wipeT] at h
    by_cases z : v = j
    · subst z
      by_cases hv : v < (wipeT ρ vs).length
      · rw [List.getElem?_set_self hv] at h; cases h
      · rw [List.getElem?_eq_none (by simpa using hv)] at h; cases h
    · rw [List.getElem?_set_ne z] at h
      have := wipeT_at ρ vs j t h
      simp only [List.mem_cons, not_or]
      exact ⟨fun y => z y.symm, this⟩
theorem wipe_out' {σ : L2.St} {j : Nat} : ∀ {vs : List Nat}, j ∉ vs → (wipe σ vs)[j]? = σ[j]?
  | [], _ => rfl
  | v :: vs, h => by
    simp only [List.mem_cons, not_or] at h
    rw [wipe, List.getElem?_set_ne (fun z => h.1 z.symm), wipe_out' h.2]
variable {e : Fr0} {ρ ρ' : Sl} {τ : Tm} {σ σ' : L2.St} {H H' Hs Hs' : Hp}
theorem RepE.resl : ∀ {ρ : Sl} {σ σ' : L2.St} {fp : List Addr}, RepE g Hs H ρ σ fp → σ'.length = σ.length → (∀ (j : Nat) (t : T), ρ[j]? = some (some t) → σ'[j]? = σ[j]?) → RepE g Hs H ρ σ' fp
  | [], σ, σ', fp, h, l, _ => by
    obtain ⟨rfl, rfl⟩ := h
    exact ⟨by simpa using l, rfl⟩
  | none :: ρ, σ, σ', fp, h, l, k => by
    obtain ⟨o, σ1, rfl, r⟩ := h
    cases σ' with
    | nil => simp at l
    | cons o' σ' => exact ⟨o', σ', rfl, RepE.resl r (by simpa using l) fun j t hj => by simpa using k (j + 1) t (by simpa using hj)⟩
  | some t :: ρ, σ, σ', fp, h, l, k => by
    obtain ⟨v, σ1, f, f', rfl, rfl, q, r⟩ := h
    cases σ' with
    | nil => simp at l
    | cons o' σ' =>
      have e1 := k 0 t (by simp)
      simp at e1
      subst e1
      exact ⟨v, σ', f, f', rfl, rfl, q, RepE.resl r (by simpa using l) fun j t hj => by simpa using k (j + 1) t (by simpa using hj)⟩
theorem Ok.resl (o : Ok g e ρ τ σ H Hs) (l : σ'.length = σ.length) (k : ∀ (j : Nat) (t : T), ρ[j]? = some (some t) → σ'[j]? = σ[j]?) (hp : ∀ p ∈ e.P, σ'[p.1]? = σ[p.1]?) : Ok g e ρ τ σ' H Hs := by
  obtain ⟨fs, ft, r1, r2, c, n⟩ := o.own
  exact ⟨o.sub, o.sub0, o.new, o.frame, o.there, fun p h => by rw [hp p h]; exact o.fix p h, fs, ft, r1.resl l k, r2, c, n⟩
theorem RepE.unset : ∀ {ρ : Sl} {σ : L2.St} {fp : List Addr} (i : Nat), RepE g Hs H ρ σ fp → ∃ fp', RepE g Hs H (ρ.set i none) σ fp' ∧ ∀ a, fp'.count a ≤ fp.count a
  | [], _, fp, _, h => ⟨fp, by simpa using h, fun _ => Nat.le_refl _⟩
  | none :: ρ, _, fp, 0, h => ⟨fp, by simpa using h, fun _ => Nat.le_refl _⟩
  | none :: ρ, _, fp, i + 1, h => by
    obtain ⟨o, σ1, rfl, r⟩ := h
    obtain ⟨fp', r', c⟩ := RepE.unset i r
    exact ⟨fp', ⟨o, σ1, rfl, r'⟩, c⟩
  | some t :: ρ, _, fp, 0, h => by
    obtain ⟨v, σ1, f, f', rfl, rfl, q, r⟩ := h
    exact ⟨f', ⟨_, σ1, rfl, r⟩, fun a => by rw [List.count_append]; omega⟩
  | some t :: ρ, _, fp, i + 1, h => by
    obtain ⟨v, σ1, f, f', rfl, rfl, q, r⟩ := h
    obtain ⟨fp', r', c⟩ := RepE.unset i r
    exact ⟨f ++ fp', ⟨v, σ1, f, fp', rfl, rfl, q, r'⟩, fun a => by rw [List.count_append, List.count_append]; have := c a; omega⟩
theorem Ok.unset (o : Ok g e ρ τ σ H Hs) (i : Nat) : Ok g e (ρ.set i none) τ σ H Hs := by
  obtain ⟨fs, ft, r1, r2, c, n⟩ := o.own
  obtain ⟨fs', r1', c'⟩ := r1.unset i
  refine ⟨o.sub, o.sub0, o.new, o.frame, o.there, o.fix, fs', ft, r1', r2, fun a => ?_, fun a ha => n a ?_⟩
  · have := c a; have := c' a; omega
  · rcases ha with ha | ha
    · have := List.count_pos_iff.mpr ha
      have := c' a
      exact .inl (List.count_pos_iff.mp (by omega))
    · exact .inr ha
theorem Ok.wipeT (o : Ok g e ρ τ σ H Hs) : ∀ vs, Ok g e (DL.wipeT ρ vs) τ σ H Hs
  | [] => o
  | v :: vs => (Ok.wipeT o vs).unset v
theorem Ok.wipe (o : Ok g e ρ τ σ H Hs) (vs : List Nat) (hp : ∀ p ∈ e.P, p.1 ∉ vs) : Ok g e (DL.wipeT ρ vs) τ (L2.wipe σ vs) H Hs :=
  (o.wipeT vs).resl (wipe_length σ vs) (fun j t h => wipe_out' (wipeT_at ρ vs j t h)) fun p h => wipe_out' (hp p h)
theorem Ok.unwipe (o : Ok g e ρ τ σ' H Hs) {vs : List Nat} (h : L2.wipe σ' vs = L2.wipe σ vs) (hp : ∀ p ∈ e.P, p.1 ∉ vs) : Ok g e (DL.wipeT ρ vs) τ σ H Hs := by
  have out : ∀ j, j ∉ vs → σ[j]? = σ'[j]? := fun j hj => by
    have := congrArg (fun s => s[j]?) h
    simp only [wipe_out' hj] at this
    exact this.symm
  refine (o.wipeT vs).resl ?_ (fun j t h => out j (wipeT_at ρ vs j t h)) fun p h => out _ (hp p h)
  have := congrArg List.length h
  rw [wipe_length, wipe_length] at this
  exact this.symm
theorem wipe_of_out {σ σ' : L2.St} {is : List Nat} : ∀ {vs : List Nat}, SlOut is σ σ' → (∀ i ∈ is, i ∈ vs) → L2.wipe σ' vs = L2.wipe σ vs := fun {vs} so hv => by
  apply List.ext_getElem?
  intro j
  by_cases hj : j ∈ vs
  · have : ∀ (σ : L2.St) (vs : List Nat), j ∈ vs → (L2.wipe σ vs)[j]? = if j < σ.length then some none else none := by
      intro σ vs
      induction vs with
      | nil => intro h; cases h
      | cons v vs ih =>
        intro h
        rw [L2.wipe]
        by_cases z : v = j
        · subst z
          by_cases hl : v < σ.length
          · rw [List.getElem?_set_self (by rw [wipe_length]; exact hl), if_pos hl]
          · rw [List.getElem?_eq_none (by rw [List.length_set, wipe_length]; omega), if_neg hl]
        · rw [List.getElem?_set_ne z]
          exact ih ((List.mem_cons.mp h).resolve_left fun y => z y.symm)
    rw [this σ' vs hj, this σ vs hj, so.1]
  · rw [wipe_out' hj, wipe_out' hj]
    exact so.2 j fun h => hj (hv j h)
theorem wipe_idem {σ : L2.St} {vs : List Nat} : L2.wipe (L2.wipe σ vs) vs = L2.wipe σ vs :=
  wipe_of_out (is := vs) ⟨wipe_length σ vs, fun j hj => wipe_out' hj⟩ fun _ h => h

/-! a list that grows -/
/-- what is owned at a is written anew; its parts come from what is at hand -/
theorem Ok.wrL {D : Addr} {ts : List T} {ws : List V} {us : List T} (o : Ok g e ρ ((ws, us) :: ([.ref D], [.lst ts]) :: τ) σ H Hs) : ∃ acc, H D = some (.lst acc) ∧ acc.length = ts.length ∧
    ∀ acc' ts', (∀ H' fu f, RepTs g Hs H' us ws fu → RepTs g Hs H' ts acc f → ∃ f', RepTs g Hs H' ts' acc' f' ∧ ∀ a, f'.count a ≤ fu.count a + f.count a) → Ok g e ρ (([.ref D], [.lst ts']) :: τ) σ (upd H D (.lst acc')) Hs := by
  obtain ⟨fs, ft, r1, r2, c, n⟩ := o.own
  obtain ⟨fu, f2, rfl, ru, f3, f4, rfl, rl, rx⟩ := r2
  have rl' := RepTs.one.mp rl
  clear rl
  simp only [RepT] at rl'
  obtain ⟨a, acc, f5, e1, hD, rfl, rl⟩ := rl'
  cases e1
  refine ⟨acc, hD, rl.length, fun acc' ts' mk => ?_⟩
  have hDm : D ∈ fs ∨ D ∈ fu ++ (D :: f5 ++ f4) := .inr (by simp)
  obtain ⟨n1, n2, n3⟩ := n D hDm
  have cD := c D
  simp only [List.count_append, List.count_cons_self, List.cons_append] at cD
  have nD : ∀ a, a ∈ fs ∨ a ∈ fu ∨ a ∈ f5 ∨ a ∈ f4 → upd H D (.lst acc') a = H a := fun a ha => upd_ne fun z => by
    subst z
    rcases ha with h | h | h | h <;> have := List.count_pos_iff.mpr h <;> omega
  obtain ⟨f', r', c'⟩ := mk (upd H D (.lst acc')) fu f5 (RepTs.keep (Same.refl _) (fun a ha => nD a (by simp [ha])) ru) (RepTs.keep (Same.refl _) (fun a ha => nD a (by simp [ha])) rl)
  refine ⟨fun a u z => ?_, o.sub0, o.new, fun a h1 h2 => ?_, fun a h => ?_, o.fix, fs, (D :: f') ++ f4, r1.keep (Same.refl _) fun a ha => nD a (by simp [ha]), ⟨D :: f', f4, rfl, RepTs.one.mpr ?_, rx.keep (Same.refl _) fun a ha => nD a (by simp [ha])⟩, fun a => ?_, fun a ha => ?_⟩
  · rw [upd_ne (fun y => by subst y; rw [n1] at z; cases z)]; exact o.sub a u z
  · rw [upd_ne (fun y => by subst y; exact (n3.elim (fun q => h2 q) fun q => h1 q))]; exact o.frame a h1 h2
  · by_cases z : a = D
    · subst z; rw [upd_same]; simp
    · rw [upd_ne z]; exact o.there a h
  · simp only [RepT]
    exact ⟨D, acc', f', rfl, upd_same, rfl, r'⟩
  · have h1 := c a
    have h2 := c' a
    simp only [List.count_append, List.count_cons, List.cons_append] at h1 ⊢
    omega
  · by_cases z : a = D
    · subst z; exact ⟨n1, by rw [upd_same]; simp, n3⟩
    · rw [upd_ne z]
      refine n a ?_
      rcases ha with ha | ha
      · exact .inl ha
      · refine .inr ?_
        simp only [List.mem_append, List.mem_cons, List.cons_append] at ha ⊢
        rcases ha with ha | ha | ha
        · exact absurd ha z
        · have h1 := List.count_pos_iff.mpr ha
          have h2 := c' a
          by_cases h3 : 0 < fu.count a
          · exact .inl (List.count_pos_iff.mp h3)
          · exact .inr (.inr (.inl (List.count_pos_iff.mp (by omega))))
        · exact .inr (.inr (.inr ha))
theorem Ok.app {D : Addr} {ts : List T} {y : V} {t : T} (o : Ok g e ρ (([y], [t]) :: ([.ref D], [.lst ts]) :: τ) σ H Hs) : ∃ acc, H D = some (.lst acc) ∧ acc.length = ts.length ∧ Ok g e ρ (([.ref D], [.lst (ts ++ [t])]) :: τ) σ (upd H D (.lst (acc ++ [y]))) Hs := by
  obtain ⟨acc, h1, h2, k⟩ := o.wrL
  exact ⟨acc, h1, h2, k _ _ fun H' fu f ru rl => ⟨f ++ fu, RepTs.append rl ru, fun a => by rw [List.count_append]; omega⟩⟩

/-- no slot need stay -/
def Fr0.np (e : Fr0) : Fr0 := ⟨e.H, e.S, e.F, []⟩
theorem Ok.np (o : Ok g e ρ τ σ H Hs) : Ok g e.np ρ τ σ H Hs := ⟨o.sub, o.sub0, o.new, o.frame, o.there, (fun _ h => nomatch h), o.own⟩
theorem Ok.ofNp (o : Ok g e.np ρ τ σ H Hs) (h : ∀ p ∈ e.P, σ[p.1]? = some (some p.2)) : Ok g e ρ τ σ H Hs := ⟨o.sub, o.sub0, o.new, o.frame, o.there, h, o.own⟩
theorem noP {i : List Nat} : ∀ p ∈ e.np.P, p.1 ∉ i := fun _ h => nomatch h
theorem npOk : PrOk e.np c := fun _ h => nomatch h
def lcF (st : T → Sl → Option Sl) (ft : Sl → Option (Rs Bool)) (fe : Sl → Option (Rs T)) (vs : List Nat) : List D → Sl → List T → Option (Rs (List T))
  | [], ρ, acc => some (.ok acc (wipeT ρ vs))
  | d :: ds, ρ, acc => match st (.fz d) ρ with
    | none => none
    | some ρ1 => match ft ρ1 with
      | some (.ok false ρ2) => lcF st ft fe vs ds (wipeT ρ2 vs) acc
      | some (.ok true ρ2) => match fe ρ2 with
        | some (.ok t ρ3) => if acc.length < sizeLine then lcF st ft fe vs ds (wipeT ρ3 vs) (acc ++ [t]) else none
        | _ => none
      | _ => none
/-- one target for all the blocks that may be entered -/
def allE (f : Shared → Hp → Addr → List (Str × Addr) → List Addr → TE) : TE := fun σ H Q => ∀ s H0 C cl fp, f s H0 C cl fp σ H Q
theorem pe_all {ctx : Shared → Hp → Addr → List (Str × Addr) → List Addr → Cx} {f : Shared → Hp → Addr → List (Str × Addr) → List Addr → TE} (h : ∀ s H0 C cl fp, PE (ctx s H0 C cl fp) ex (f s H0 C cl fp)) (s : Shared) (H0 : Hp) (C : Addr) (cl : List (Str × Addr)) (fp : List Addr) : PE (ctx s H0 C cl fp) ex (allE f) :=
  ⟨fun pins s1 σ H Q I q => (h s H0 C cl fp).run pins s1 σ H Q I (q s H0 C cl fp)⟩
def allG (f : Shared → Hp → Addr → List (Str × Addr) → List Addr → TG) : TG := fun v σ H Q => ∀ s H0 C cl fp, f s H0 C cl fp v σ H Q
theorem pg_all {ctx : Shared → Hp → Addr → List (Str × Addr) → List Addr → Cx} {f : Shared → Hp → Addr → List (Str × Addr) → List Addr → TG} (h : ∀ s H0 C cl fp, PG (ctx s H0 C cl fp) ex (f s H0 C cl fp)) (s : Shared) (H0 : Hp) (C : Addr) (cl : List (Str × Addr)) (fp : List Addr) : PG (ctx s H0 C cl fp) ex (allG f) :=
  ⟨fun pins s1 σ H v u Q I r q => (h s H0 C cl fp).run pins s1 σ H v u Q I r (q s H0 C cl fp)⟩
def allT (f : Shared → Hp → Addr → List (Str × Addr) → List Addr → TT) : TT := fun σ H Q => ∀ s H0 C cl fp, f s H0 C cl fp σ H Q
theorem pts_all {ctx : Shared → Hp → Addr → List (Str × Addr) → List Addr → Cx} {es : List Expr} {f : Shared → Hp → Addr → List (Str × Addr) → List Addr → TT} (h : ∀ s H0 C cl fp, PTs (ctx s H0 C cl fp) es (f s H0 C cl fp)) (s : Shared) (H0 : Hp) (C : Addr) (cl : List (Str × Addr)) (fp : List Addr) : PTs (ctx s H0 C cl fp) es (allT f) :=
  ⟨fun pins s1 σ H Q I q => (h s H0 C cl fp).run pins s1 σ H Q I (q s H0 C cl fp)⟩
def allI (f : Shared → Hp → Addr → List (Str × Addr) → List Addr → TI) : TI := fun σ H Q => ∀ s H0 C cl fp, f s H0 C cl fp σ H Q
theorem pi_all {ctx : Shared → Hp → Addr → List (Str × Addr) → List Addr → Cx} {f : Shared → Hp → Addr → List (Str × Addr) → List Addr → TI} (h : ∀ s H0 C cl fp, PI (ctx s H0 C cl fp) tg ex (f s H0 C cl fp)) (s : Shared) (H0 : Hp) (C : Addr) (cl : List (Str × Addr)) (fp : List Addr) : PI (ctx s H0 C cl fp) tg ex (allI f) :=
  ⟨fun pins s1 σ H R I q => (h s H0 C cl fp).run pins s1 σ H R I (q s H0 C cl fp)⟩
/-- the tests of a clause: none or one -/
def TsJ (X : Cx) (g : Gx) (W : WX) (f : Sl → Option (Rs Bool)) (es : List Expr) : Prop :=
  ∃ tt, PTs X es tt ∧ ∀ e ρ τ σ H Hs (Q : Bool → Hp → Prop), Ok g e ρ τ σ H Hs → PostB g W e τ σ (f ρ) Q → tt σ H Q
theorem tsj_nil : TsJ X g W (fun ρ => some (.ok true ρ)) [] := ⟨_, pts_nil, fun e ρ τ σ H Hs Q o q => q H Hs o⟩
theorem tsj_one {f : Sl → Option (Rs Bool)} (h : BJ X g W f ex) : TsJ X g W f [ex] := let ⟨_, p, r⟩ := h; ⟨_, pts_one p, r⟩
/-- in every block that may be entered -/
def InBlk (X : Cx) (scope : Scope) (P : Cx → Prop) : Prop := ∀ (s : Shared) (H : Hp) (C : Addr) (cl : List (Str × Addr)) (fp : List Addr), P (X.blk s H scope (compEnvC scope cl C X.env) fp)
theorem Cp.inBlk (k : Cp X g c) (ok : BlkOk X.N X.env.scope scope own) {P : Cx → Prop} (h : ∀ Y, Cp Y g (c.inB scope) → (∀ u s', Y.xe u s' ↔ False) → P Y) : InBlk X scope P := fun s H C cl fp => h _ (k.blk ok s H C cl fp) fun _ _ => Iff.rfl
theorem lc_walk {G : Tg} {gt : TG} {tt : TT} {te : TE} {ft : Sl → Option (Rs Bool)} {fe : Sl → Option (Rs T)} {c' : Cxt} {vs : List Nat} {D : Addr} {ks : Ks}
    (hv : ∀ i ∈ G.sl, i ∈ vs) (hvp : ∀ p ∈ e.P, p.1 ∉ vs) (hp : PrOk e c')
    (rg : ∀ e ρ τ σ H Hs v t (Q : L2.St → Hp → Prop), PrOk e c' → Ok g e ρ (([v], [t]) :: τ) σ H Hs → (∃ ρ', stT G t ρ = some ρ' ∧ ∀ σ', SlOut G.sl σ σ' → Ok g e ρ' τ σ' H Hs → Q σ' H) → gt v σ H Q)
    (rt : ∀ e ρ τ σ H Hs (Q : Bool → Hp → Prop), Ok g e ρ τ σ H Hs → PostB g W0 e τ σ (ft ρ) Q → tt σ H Q)
    (re : ∀ e ρ τ σ H Hs (Q : VK), Ok g e ρ τ σ H Hs → Post g W0 e τ σ one (fe ρ) Q → te σ H Q)
    {d : DL.D} {ρ : Sl} {ts : List T} {rest : List DL.D} {r : Rs (List T)} {H : Hp} {Hs : Hp} {x : V} {N : Hp → Prop}
    (o : Ok g e ρ (([x], [.fz d]) :: ([.ref D], [.lst ts]) :: kG ks :: τ) (L2.wipe σ vs) H Hs)
    (q : lcF (stT G) ft fe vs (d :: rest) ρ ts = some r)
    (hN : ∀ ρ' ts' H' Hs', Ok g e ρ' (([.ref D], [.lst ts']) :: kG ks :: τ) (L2.wipe σ vs) H' Hs' → lcF (stT G) ft fe vs rest ρ' ts' = some r → N H') :
    gt x (L2.wipe σ vs) H fun σ2 H2 => L2.wipe σ2 vs = L2.wipe σ vs ∧ tt σ2 H2 fun b H3 =>
      if b = true then te σ2 H3 fun y H4 => ∃ acc, H4 D = some (.lst acc) ∧ acc.length < sizeLine ∧ N (upd H4 D (.lst (acc ++ [y]))) else N H3 := by
  simp only [lcF] at q
  cases hst : stT G (.fz d) ρ with
  | none => rw [hst] at q; cases q
  | some ρ1 =>
    rw [hst] at q
    simp only at q
    refine rg e ρ _ _ H Hs x (.fz d) _ hp o ⟨ρ1, hst, fun σ2 so o2 => ?_⟩
    have ew : L2.wipe σ2 vs = L2.wipe σ vs := by
      rw [wipe_of_out so hv, wipe_idem]
    have ew2 : L2.wipe σ2 vs = L2.wipe (L2.wipe σ vs) vs := by rw [ew, wipe_idem]
    refine ⟨ew, rt e ρ1 _ σ2 H Hs _ o2 ?_⟩
    cases ht : ft ρ1 with
    | none => rw [ht] at q; cases q
    | some r1 =>
      rw [ht] at q
      cases r1 with
      | ex c t ρ2 => cases q
      | ok b ρ2 =>
        intro H3 Hs3 o3
        cases b with
        | false => exact iteF (hN _ _ H3 Hs3 (o3.unwipe ew2 hvp) q)
        | true =>
          refine iteT (re e ρ2 _ σ2 H3 Hs3 _ o3 ?_)
          simp only at q
          cases he : fe ρ2 with
          | none => rw [he] at q; cases q
          | some r2 =>
            rw [he] at q
            cases r2 with
            | ex c t ρ3 => cases q
            | ok t ρ3 =>
              intro y H4 Hs4 o4
              simp only at q
              split at q
              · rename_i hz
                obtain ⟨acc, h1, h2, o5⟩ := o4.app
                exact ⟨acc, h1, by rw [h2]; exact hz, hN _ _ _ _ (o5.unwipe ew2 hvp) q⟩
              · cases q
theorem lc_read {wi : TI} {G : Tg} {gt : TG} {tt : TT} {te : TE} {ft : Sl → Option (Rs Bool)} {fe : Sl → Option (Rs T)} {fi : Sl → Option (Rs (List D))} {c' : Cxt} {own : List (Str × Nat)}
    (hv : ∀ i ∈ G.sl, i ∈ own.map (·.2))
    (ri : ∀ e ρ τ σ H Hs (R : It → Hp → Prop), Ok g e ρ τ σ H Hs → PostI g W e τ σ (fi ρ) R → wi σ H R)
    (rg : ∀ e ρ τ σ H Hs v t (Q : L2.St → Hp → Prop), PrOk e c' → Ok g e ρ (([v], [t]) :: τ) σ H Hs → (∃ ρ', stT G t ρ = some ρ' ∧ ∀ σ', SlOut G.sl σ σ' → Ok g e ρ' τ σ' H Hs → Q σ' H) → gt v σ H Q)
    (rt : ∀ e ρ τ σ H Hs (Q : Bool → Hp → Prop), Ok g e ρ τ σ H Hs → PostB g W0 e τ σ (ft ρ) Q → tt σ H Q)
    (re : ∀ e ρ τ σ H Hs (Q : VK), Ok g e ρ τ σ H Hs → Post g W0 e τ σ one (fe ρ) Q → te σ H Q)
    {e : Fr0} {ρ : Sl} {τ : Tm} {σ : L2.St} {H Hs : Hp} {Q : VK} (o : Ok g e ρ τ σ H Hs)
    (q : Post g W e τ σ one (bindR (fi ρ) fun ds ρ1 => bindR (lcF (stT G) ft fe (own.map (·.2)) ds (DL.wipeT ρ1 (own.map (·.2))) []) fun ts ρ2 => some (.ok (.lst ts) ρ2)) Q) : tLc wi gt tt te (own.map (·.2)) σ H Q := by
  refine ri e ρ τ σ H Hs _ o ?_
  cases h : fi ρ with
  | none => rw [h] at q; exact q
  | some r =>
    rw [h] at q
    cases r with
    | ex c t ρ' => exact q
    | ok ds ρ1 =>
      intro J ks H1 S1 o1 gv D hD
      simp only [bindR] at q
      cases hr : lcF (stT G) ft fe (own.map (·.2)) ds (DL.wipeT ρ1 (own.map (·.2))) [] with
      | none => rw [hr] at q; exact q.elim
      | some rr =>
        rw [hr] at q
        have o1' := (o1.nilG.newList hD).np.wipe (own.map (·.2)) noP
        refine ⟨fun i m H => ∃ ρ ts Hs, i + m = ds.length ∧ Ok g e.np ρ (([.ref D], [.lst ts]) :: kG ks :: τ) (L2.wipe σ (own.map (·.2))) H Hs ∧ lcF (stT G) ft fe (own.map (·.2)) (ds.drop i) ρ ts = some rr, ⟨ds.length, _, [], S1, by omega, o1', hr⟩, ?_⟩
        rintro i m H ⟨ρ2, ts, Hs2, him, o2, q2⟩
        obtain ⟨g1, g2⟩ := gv i H Hs2 (o2.swap.kept) o2.sub
        cases hd : ds[i]? with
        | none =>
          have hi : i = ds.length := by
            have := List.getElem?_eq_none_iff.mp hd
            omega
          rw [hi, List.drop_length] at q2
          simp only [lcF] at q2
          cases q2
          refine .inl ⟨g2 hi, ?_⟩
          refine q _ H Hs2 ?_
          exact (o2.swap.drop.unwipe wipe_idem noP).ofNp o.fix
        | some d =>
          have hi : i < ds.length := (List.getElem?_eq_some_iff.mp hd).1
          obtain ⟨g3, g4⟩ := g1 d hd
          rw [List.drop_eq_getElem_cons hi] at q2
          have hd' : ds[i] = d := (List.getElem?_eq_some_iff.mp hd).2
          rw [hd'] at q2
          refine .inr ⟨g3, fun H' => ∃ ρ ts Hs, Ok g e.np ρ (([.ref D], [.lst ts]) :: kG ks :: τ) (L2.wipe σ (own.map (·.2))) H' Hs ∧ lcF (stT G) ft fe (own.map (·.2)) (ds.drop (i + 1)) ρ ts = some rr, fun H' ⟨ρ', ts', Hs', o', q'⟩ => ⟨m - 1, by omega, ρ', ts', Hs', by omega, o', q'⟩, fun x H' hy => ?_⟩
          obtain ⟨Hs', k1, k2, k3, k4, rx⟩ := g4 x H' hy
          exact lc_walk hv noP npOk rg rt re ((o2.step k1 k2 k3 k4).push rx) q2 fun ρ' ts' H' Hs' o' q' => ⟨ρ', ts', Hs', o', q'⟩
/-- [elt for tg in iter if ..] -/
theorem lc_body {G : Tg} {ft : Sl → Option (Rs Bool)} {fe : Sl → Option (Rs T)} {fi : Sl → Option (Rs (List D))} {own : List (Str × Nat)} {ifs : List Expr} (k : Cp X g c) (ok : blkC X.N X.env.scope scope own = true) (hv : (G.sl.all fun i => (own.map (·.2)).contains i) = true)
    (hi : IJ X g W tg fi iter) (hg : InBlk X scope fun Y => GJ Y g (c.inB scope) G tg) (ht : InBlk X scope fun Y => TsJ Y g W0 ft ifs) (he : InBlk X scope fun Y => CJ Y g W0 fe elt) :
    ∃ wi gt tt te, PI X tg iter wi ∧ (∀ s H C cl fp, PG (X.blk s H scope (compEnvC scope cl C X.env) fp) tg gt) ∧ (∀ s H C cl fp, PTs (X.blk s H scope (compEnvC scope cl C X.env) fp) ifs tt) ∧ (∀ s H C cl fp, PE (X.blk s H scope (compEnvC scope cl C X.env) fp) elt te) ∧
      ∀ e ρ τ σ H Hs (Q : VK), Ok g e ρ τ σ H Hs → Post g W e τ σ one (bindR (fi ρ) fun ds ρ1 => bindR (lcF (stT G) ft fe (own.map (·.2)) ds (wipeT ρ1 (own.map (·.2))) []) fun ts ρ2 => some (.ok (.lst ts) ρ2)) Q → tLc wi gt tt te (own.map (·.2)) σ H Q := by
  obtain ⟨wi, pi, ri⟩ := hi
  refine ⟨wi, allG fun s H C cl fp => (hg s H C cl fp).choose, allT fun s H C cl fp => (ht s H C cl fp).choose, allE fun s H C cl fp => (he s H C cl fp).choose, pi,
    pg_all fun s H C cl fp => (hg s H C cl fp).choose_spec.1, pts_all fun s H C cl fp => (ht s H C cl fp).choose_spec.1, pe_all fun s H C cl fp => (he s H C cl fp).choose_spec.1, fun e ρ τ σ H Hs Q o q => ?_⟩
  refine lc_read (c' := c.inB scope) (fun i hi => ?_) ri (fun e ρ τ σ H Hs v t Q hp o q s H0 C cl fp => (hg s H0 C cl fp).choose_spec.2 e ρ τ σ H Hs v t Q hp o q) (fun e ρ τ σ H Hs Q o q s H0 C cl fp => (ht s H0 C cl fp).choose_spec.2 e ρ τ σ H Hs Q o q)
    (fun e ρ τ σ H Hs Q o q s H0 C cl fp => (he s H0 C cl fp).choose_spec.2 e ρ τ σ H Hs Q o q) o q
  have := (List.all_eq_true.mp hv) i hi
  exact List.contains_iff_mem.mp this
theorem cj_lc {G : Tg} {ft : Sl → Option (Rs Bool)} {fe : Sl → Option (Rs T)} {fi : Sl → Option (Rs (List D))} {own : List (Str × Nat)} {ifs : List Expr} (k : Cp X g c) (ok : blkC X.N X.env.scope scope own = true) (hv : (G.sl.all fun i => (own.map (·.2)).contains i) = true) (hs : ∀ x, foldedSetIterable iter X.env x = pure x)
    (hi : IJ X g W tg fi iter) (hg : InBlk X scope fun Y => GJ Y g (c.inB scope) G tg) (ht : InBlk X scope fun Y => TsJ Y g W0 ft ifs) (he : InBlk X scope fun Y => CJ Y g W0 fe elt) :
    CJ X g W (fun ρ => bindR (fi ρ) fun ds ρ1 => bindR (lcF (stT G) ft fe (own.map (·.2)) ds (wipeT ρ1 (own.map (·.2))) []) fun ts ρ2 => some (.ok (.lst ts) ρ2)) (.ListComp elt [⟨tg, iter, ifs, 0⟩] scope pos) := by
  obtain ⟨wi, gt, tt, te, h1, h2, h3, h4, h5⟩ := lc_body k ok hv hi hg ht he
  exact ⟨_, pe_lc k.calm k.nd h1 (blkOk_by ok) h2 h3 h4 hs, h5⟩
theorem sj_asgLc {G : Tg} {ft : Sl → Option (Rs Bool)} {fe : Sl → Option (Rs T)} {fi : Sl → Option (Rs (List D))} {own : List (Str × Nat)} {ifs : List Expr} {i : Nat} {x : Str} {py spos : Pos} (k : Cp X g c) (ok : blkC X.N X.env.scope scope own = true) (hv : (G.sl.all fun i => (own.map (·.2)).contains i) = true) (hs : ∀ x, foldedSetIterable iter X.env x = pure x)
    (h1 : c.N[i]? = some x) (h2 : c.look.lookup x = some .local) (h3 : c.prot.contains i = false) (hl : (py.line == pos.line) = true) (ha : (scope.names.any fun (n, k) => n == x && (k == .local || k == .cell)) = false)
    (hi : IJ X g W tg fi iter) (hg : InBlk X scope fun Y => GJ Y g (c.inB scope) G tg) (ht : InBlk X scope fun Y => TsJ Y g W0 ft ifs) (he : InBlk X scope fun Y => CJ Y g W0 fe elt) :
    SJ X g c W (fun ρ => bindE (bindR (fi ρ) fun ds ρ1 => bindR (lcF (stT G) ft fe (own.map (·.2)) ds (wipeT ρ1 (own.map (·.2))) []) fun ts ρ2 => some (.ok (.lst ts) ρ2)) fun t ρ1 => if i < ρ1.length then some (.nx (ρ1.set i (some t))) else none) (.Assign [.Name x py] (.ListComp elt [⟨tg, iter, ifs, 0⟩] scope pos) spos) := by
  obtain ⟨wi, gt, tt, te, p1, p2, p3, p4, p5⟩ := lc_body k ok hv hi hg ht he
  have hx : X.env.scope.names.lookup x = some .local := by rw [k.sc]; exact h2
  refine ⟨_, ps_setLc (i := i) k.calm k.nd (by rw [k.N]; exact h1) hx (sw_true k.kind hx hl ha) p1 (blkOk_by ok) p2 p3 p4 hs, fun e ρ τ σ H Hs D hp o q => ?_⟩
  refine p5 e ρ τ σ H Hs _ o (PostS.bindE q fun x ρ1 _ v H1 Hs1 o1 q1 => ?_)
  split at q1
  · rename_i hi
    exact q1 _ H1 Hs1 (o1.store hi (hp.ne h3))
  · exact q1.elim
end
end DL
namespace DL
open PySem PySem.Spec L2

/-! ### parts of a tree, written in their place -/
def subT : List Nat → T → Option T
  | [], t => some t
  | j :: p, .lst ts => (ts[j]?).bind (subT p)
  | j :: p, .tup ts => (ts[j]?).bind (subT p)
  | j :: p, .dic _ ts => (ts[j]?).bind (subT p)
  | j :: p, .obj _ _ ts => (ts[j]?).bind (subT p)
  | _ :: _, .fz _ => none
def putT : List Nat → T → T → T
  | [], _, s => s
  | j :: p, .lst ts, s => .lst (match ts[j]? with | some u => ts.set j (putT p u s) | none => ts)
  | j :: p, .tup ts, s => .tup (match ts[j]? with | some u => ts.set j (putT p u s) | none => ts)
  | j :: p, .dic ks ts, s => .dic ks (match ts[j]? with | some u => ts.set j (putT p u s) | none => ts)
  | j :: p, .obj c ns ts, s => .obj c ns (match ts[j]? with | some u => ts.set j (putT p u s) | none => ts)
  | _ :: _, .fz d, _ => .fz d
/-- the way from a value to a part of it -/
def Chain (g : Gx) (H : Hp) : List Nat → T → V → V → Prop
  | [], _, v, w => w = v
  | j :: p, .lst ts, v, w => ∃ a vs u t', v = .ref a ∧ H a = some (.lst vs) ∧ vs.length = ts.length ∧ vs[j]? = some u ∧ ts[j]? = some t' ∧ Chain g H p t' u w
  | j :: p, .tup ts, v, w => ∃ a vs u t', v = .ref a ∧ H a = some (.tup vs) ∧ vs.length = ts.length ∧ vs[j]? = some u ∧ ts[j]? = some t' ∧ Chain g H p t' u w
  | j :: p, .dic ks ts, v, w => ∃ a vs u t', v = .ref a ∧ H a = some (.dK (ks.zip vs)) ∧ ks.length = vs.length ∧ vs.length = ts.length ∧ vs[j]? = some u ∧ ts[j]? = some t' ∧ Chain g H p t' u w
  | j :: p, .obj c ns ts, v, w => ∃ a dx vs u t', v = .ref a ∧ H a = some (.ins (g.cls c) dx (ns.zip vs)) ∧ ns.length = vs.length ∧ vs.length = ts.length ∧ vs[j]? = some u ∧ ts[j]? = some t' ∧ Chain g H p t' u w
  | _ :: _, .fz _, _, _ => False
section
variable {X : Cx} {g : Gx} {c : Cxt} {W : WX} {e : Fr0} {ρ ρ' : Sl} {τ : Tm} {σ σ' : L2.St} {H H' Hs Hs' : Hp}
theorem RepTs.sub : ∀ {j : Nat} {ts : List T} {u : T} {vs : List V} {fp : List Addr}, ts[j]? = some u → RepTs g Hs H ts vs fp → ∃ (w : V) (fs fr : List Addr), vs[j]? = some w ∧ RepT g Hs H u w fs ∧ (∀ a, fp.count a = fs.count a + fr.count a) ∧
    ∀ H' u' fs', (∀ a ∈ fr, H' a = H a) → RepT g Hs H' u' w fs' → ∃ fp', RepTs g Hs H' (ts.set j u') vs fp' ∧ ∀ a, fp'.count a = fs'.count a + fr.count a
  | j, [], u, _, _, h, _ => by simp at h
  | 0, t :: ts, u, vs, fp, h, r => by
    simp at h
    subst h
    simp only [RepTs] at r
    obtain ⟨v, vs', f, f', rfl, rfl, q, r⟩ := r
    refine ⟨v, f, f', by simp, q, fun a => by rw [List.count_append], fun H' u' fs' k q' => ⟨fs' ++ f', ?_, fun a => by rw [List.count_append]⟩⟩
    simp only [List.set_cons_zero, RepTs]
    exact ⟨v, vs', fs', f', rfl, rfl, q', RepTs.keep (Same.refl _) k r⟩
  | j + 1, t :: ts, u, vs, fp, h, r => by
    simp only [RepTs] at r
    obtain ⟨v, vs', f, f', rfl, rfl, q, r⟩ := r
    obtain ⟨w, fs, fr, h1, h2, h3, h4⟩ := RepTs.sub (j := j) (by simpa using h) r
    refine ⟨w, fs, f ++ fr, by simpa using h1, h2, fun a => by rw [List.count_append, List.count_append, h3 a]; omega, fun H' u' fs' k q' => ?_⟩
    obtain ⟨fp', r', c'⟩ := h4 H' u' fs' (fun a ha => k a (by simp [ha])) q'
    refine ⟨f ++ fp', ?_, fun a => by rw [List.count_append, List.count_append, c' a]; omega⟩
    simp only [List.set_cons_succ, RepTs]
    exact ⟨v, vs', f, fp', rfl, rfl, q.keep (Same.refl _) fun a ha => k a (by simp [ha]), r'⟩
theorem RepT.sub (sm : Same Hs H) : ∀ {p : List Nat} {t s : T} {v : V} {fp : List Addr}, subT p t = some s → RepT g Hs H t v fp → ∃ (w : V) (fs fr : List Addr), Chain g H p t v w ∧ RepT g Hs H s w fs ∧ (∀ a, fp.count a = fs.count a + fr.count a) ∧
    ∀ H' s' fs', (∀ a ∈ fr, H' a = H a) → RepT g Hs H' s' w fs' → ∃ fp', RepT g Hs H' (putT p t s') v fp' ∧ ∀ a, fp'.count a = fs'.count a + fr.count a
  | [], t, s, v, fp, h, r => by
    simp only [subT] at h
    cases h
    exact ⟨v, fp, [], rfl, r, fun a => by simp, fun H' s' fs' _ q => ⟨fs', by simpa only [putT] using q, fun a => by simp⟩⟩
  | j :: p, .fz d, s, v, fp, h, r => by simp [subT] at h
  | j :: p, .lst ts, s, v, fp, h, r => by
    simp only [subT, Option.bind_eq_some_iff] at h
    obtain ⟨u, hu, h⟩ := h
    simp only [RepT] at r
    obtain ⟨a, vs, f, rfl, ha, rfl, r⟩ := r
    obtain ⟨w, fs, fr, h1, h2, h3, h4⟩ := RepTs.sub hu r
    obtain ⟨w2, fs2, fr2, c1, c2, c3, c4⟩ := RepT.sub sm h h2
    refine ⟨w2, fs2, a :: (fr2 ++ fr), by simp only [Chain]; exact ⟨a, vs, w, u, rfl, ha, r.length, h1, hu, c1⟩, c2, fun b => by rw [List.count_cons, List.count_cons, List.count_append, h3 b, c3 b]; omega, fun H' s' fs' k q => ?_⟩
    obtain ⟨fp1, q1, k1⟩ := c4 H' s' fs' (fun b hb => k b (by simp [hb])) q
    obtain ⟨fp2, q2, k2⟩ := h4 H' _ fp1 (fun b hb => k b (by simp [hb])) q1
    refine ⟨a :: fp2, ?_, fun b => by rw [List.count_cons, List.count_cons, List.count_append, k2 b, k1 b]; omega⟩
    simp only [putT, hu, RepT]
    exact ⟨a, vs, fp2, rfl, by rw [k a (by simp)]; exact ha, rfl, q2⟩
  | j :: p, .tup ts, s, v, fp, h, r => by
    simp only [subT, Option.bind_eq_some_iff] at h
    obtain ⟨u, hu, h⟩ := h
    simp only [RepT] at r
    obtain ⟨a, vs, rfl, ha, r⟩ := r
    obtain ⟨w, fs, fr, h1, h2, h3, h4⟩ := RepTs.sub hu r
    obtain ⟨w2, fs2, fr2, c1, c2, c3, c4⟩ := RepT.sub sm h h2
    refine ⟨w2, fs2, fr2 ++ fr, by simp only [Chain]; exact ⟨a, vs, w, u, rfl, sm _ _ ha, r.length, h1, hu, c1⟩, c2, fun b => by rw [List.count_append, h3 b, c3 b]; omega, fun H' s' fs' k q => ?_⟩
    obtain ⟨fp1, q1, k1⟩ := c4 H' s' fs' (fun b hb => k b (by simp [hb])) q
    obtain ⟨fp2, q2, k2⟩ := h4 H' _ fp1 (fun b hb => k b (by simp [hb])) q1
    refine ⟨fp2, ?_, fun b => by rw [List.count_append, k2 b, k1 b]; omega⟩
    simp only [putT, hu, RepT]
    exact ⟨a, vs, rfl, ha, q2⟩
  | j :: p, .dic ks ts, s, v, fp, h, r => by
    simp only [subT, Option.bind_eq_some_iff] at h
    obtain ⟨u, hu, h⟩ := h
    simp only [RepT] at r
    obtain ⟨a, vs, f, rfl, ha, l, rfl, r⟩ := r
    obtain ⟨w, fs, fr, h1, h2, h3, h4⟩ := RepTs.sub hu r
    obtain ⟨w2, fs2, fr2, c1, c2, c3, c4⟩ := RepT.sub sm h h2
    refine ⟨w2, fs2, a :: (fr2 ++ fr), by simp only [Chain]; exact ⟨a, vs, w, u, rfl, ha, l, r.length, h1, hu, c1⟩, c2, fun b => by rw [List.count_cons, List.count_cons, List.count_append, h3 b, c3 b]; omega, fun H' s' fs' k q => ?_⟩
    obtain ⟨fp1, q1, k1⟩ := c4 H' s' fs' (fun b hb => k b (by simp [hb])) q
    obtain ⟨fp2, q2, k2⟩ := h4 H' _ fp1 (fun b hb => k b (by simp [hb])) q1
    refine ⟨a :: fp2, ?_, fun b => by rw [List.count_cons, List.count_cons, List.count_append, k2 b, k1 b]; omega⟩
    simp only [putT, hu, RepT]
    exact ⟨a, vs, fp2, rfl, by rw [k a (by simp)]; exact ha, l, rfl, q2⟩
  | j :: p, .obj c ns ts, s, v, fp, h, r => by
    simp only [subT, Option.bind_eq_some_iff] at h
    obtain ⟨u, hu, h⟩ := h
    simp only [RepT] at r
    obtain ⟨a, dx, vs, f, rfl, ha, hd, l, rfl, r⟩ := r
    obtain ⟨w, fs, fr, h1, h2, h3, h4⟩ := RepTs.sub hu r
    obtain ⟨w2, fs2, fr2, c1, c2, c3, c4⟩ := RepT.sub sm h h2
    refine ⟨w2, fs2, a :: dx :: (fr2 ++ fr), by simp only [Chain]; exact ⟨a, dx, vs, w, u, rfl, ha, l, r.length, h1, hu, c1⟩, c2, fun b => by simp only [List.count_cons, List.count_append, h3 b, c3 b]; omega, fun H' s' fs' k q => ?_⟩
    obtain ⟨fp1, q1, k1⟩ := c4 H' s' fs' (fun b hb => k b (by simp [hb])) q
    obtain ⟨fp2, q2, k2⟩ := h4 H' _ fp1 (fun b hb => k b (by simp [hb])) q1
    refine ⟨a :: dx :: fp2, ?_, fun b => by simp only [List.count_cons, List.count_append, k2 b, k1 b]; omega⟩
    simp only [putT, hu, RepT]
    exact ⟨a, dx, vs, fp2, rfl, by rw [k a (by simp)]; exact ha, by rw [k dx (by simp)]; exact hd, l, rfl, q2⟩
/-- a list or a dict, its parts and what stands at its place -/
inductive Nod : T → HO → List T → List V → Prop where
  | lst {ts acc} : Nod (.lst ts) (.lst acc) ts acc
  | dic {ks ts acc} : ks.length = acc.length → Nod (.dic ks ts) (.dK (ks.zip acc)) ts acc
theorem Nod.rep {s : T} {ho : HO} {ts : List T} {acc : List V} {D : Addr} {f : List Addr} (n : Nod s ho ts acc) (h : H D = some ho) (r : RepTs g Hs H ts acc f) : RepT g Hs H s (.ref D) (D :: f) := by
  cases n with
  | lst => simp only [RepT]; exact ⟨D, acc, f, rfl, h, rfl, r⟩
  | dic l => simp only [RepT]; exact ⟨D, acc, f, rfl, h, l, rfl, r⟩
theorem Nod.of {s : T} {w : V} {fs : List Addr} (r : RepT g Hs H s w fs) (h : (∃ ts, s = .lst ts) ∨ ∃ ks ts, s = .dic ks ts) : ∃ D ho ts acc f, w = .ref D ∧ fs = D :: f ∧ H D = some ho ∧ Nod s ho ts acc ∧ RepTs g Hs H ts acc f := by
  rcases h with ⟨ts, rfl⟩ | ⟨ks, ts, rfl⟩
  · simp only [RepT] at r
    obtain ⟨D, vs, f, rfl, hD, rfl, r⟩ := r
    exact ⟨D, _, ts, vs, f, rfl, rfl, hD, .lst, r⟩
  · simp only [RepT] at r
    obtain ⟨D, vs, f, rfl, hD, l, rfl, r⟩ := r
    exact ⟨D, _, ts, vs, f, rfl, rfl, hD, .dic l, r⟩
/-- what is owned is written anew, in its place; its parts, and what comes out, come from what is at hand -/
theorem Ok.wrP {v : V} {t s : T} {p : List Nat} {ws : List V} {us : List T} (o : Ok g e ρ ((ws, us) :: ([v], [t]) :: τ) σ H Hs) (hs : subT p t = some s) (hn : (∃ ts, s = .lst ts) ∨ ∃ ks ts, s = .dic ks ts) :
    ∃ D ho ts acc, Chain g H p t v (.ref D) ∧ H D = some ho ∧ Nod s ho ts acc ∧ acc.length = ts.length ∧ ws.length = us.length ∧ ∀ s' ho' ts' acc' rvs rts, Nod s' ho' ts' acc' →
      (∀ (H' : Hp) (fu f : List Addr), (∀ a ∈ fu, H' a = H a) → RepTs g Hs H' us ws fu → RepTs g Hs H' ts acc f → ∃ f' fr : List Addr, RepTs g Hs H' ts' acc' f' ∧ RepTs g Hs H' rts rvs fr ∧ ∀ a, f'.count a + fr.count a ≤ fu.count a + f.count a) →
      Ok g e ρ ((rvs, rts) :: ([v], [putT p t s']) :: τ) σ (upd H D ho') Hs := by
  obtain ⟨fs, ft, r1, r2, c, n⟩ := o.own
  obtain ⟨fu, f2, rfl, ru, f3, f4, rfl, rl, rx⟩ := r2
  have rl' := RepTs.one.mp rl
  clear rl
  obtain ⟨w, fs2, fr2, ch, rs, cs, plug⟩ := rl'.sub o.sub hs
  obtain ⟨D, ho, ts, acc, f5, rfl, rfl, hD, nd, rl⟩ := Nod.of rs hn
  refine ⟨D, ho, ts, acc, ch, hD, nd, rl.length, ru.length, fun s' ho' ts' acc' rvs rts nd' mk => ?_⟩
  have cD := c D
  have cs' := cs D
  simp only [List.count_append, List.count_cons_self] at cD cs'
  have hDm : D ∈ fs ∨ D ∈ fu ++ (f3 ++ f4) := .inr (by
    have : D ∈ f3 := List.count_pos_iff.mp (by omega)
    simp [this])
  obtain ⟨n1, n2, n3⟩ := n D hDm
  have nD : ∀ a, a ∈ fs ∨ a ∈ fu ∨ a ∈ f5 ∨ a ∈ fr2 ∨ a ∈ f4 → upd H D ho' a = H a := fun a ha => upd_ne fun z => by
    subst z
    rcases ha with h | h | h | h | h <;> have := List.count_pos_iff.mpr h <;> omega
  obtain ⟨f', fr, r', rr, c'⟩ := mk (upd H D ho') fu f5 (fun a ha => nD a (by simp [ha])) (RepTs.keep (Same.refl _) (fun a ha => nD a (by simp [ha])) ru) (RepTs.keep (Same.refl _) (fun a ha => nD a (by simp [ha])) rl)
  obtain ⟨fp', rp, cp⟩ := plug (upd H D ho') s' (D :: f') (fun a ha => nD a (by simp [ha])) (nd'.rep upd_same r')
  refine ⟨fun a u z => ?_, o.sub0, o.new, fun a h1 h2 => ?_, fun a h => ?_, o.fix, fs, fr ++ (fp' ++ f4), r1.keep (Same.refl _) fun a ha => nD a (by simp [ha]), ⟨fr, _, rfl, rr, fp', f4, rfl, RepTs.one.mpr rp, rx.keep (Same.refl _) fun a ha => nD a (by simp [ha])⟩, fun a => ?_, fun a ha => ?_⟩
  · rw [upd_ne (fun y => by subst y; rw [n1] at z; cases z)]; exact o.sub a u z
  · rw [upd_ne (fun y => by subst y; exact (n3.elim (fun q => h2 q) fun q => h1 q))]; exact o.frame a h1 h2
  · by_cases z : a = D
    · subst z; rw [upd_same]; simp
    · rw [upd_ne z]; exact o.there a h
  · have h1 := c a
    have h2 := c' a
    have h3 := cp a
    have h4 := cs a
    simp only [List.count_append, List.count_cons] at h1 h3 h4 ⊢
    omega
  · by_cases z : a = D
    · subst z; exact ⟨n1, by rw [upd_same]; simp, n3⟩
    · rw [upd_ne z]
      refine n a ?_
      rcases ha with ha | ha
      · exact .inl ha
      · refine .inr (List.count_pos_iff.mp ?_)
        have h0 := List.count_pos_iff.mpr ha
        have h2 := c' a
        have h3 := cp a
        have h4 := cs a
        have hz : (D == a) = false := by simpa using fun y => z y.symm
        simp only [List.count_append, List.count_cons, hz] at h0 h3 h4 ⊢
        simp only [Bool.false_eq_true, if_false, Nat.add_zero] at h0 h3 h4 ⊢
        omega

/-! ### methods that change a list -/
inductive Mm where
  | append | extend | reverse | clear | pop | insert
  deriving DecidableEq
def Mm.nm : Mm → Str
  | .append => "append" | .extend => "extend" | .reverse => "reverse" | .clear => "clear" | .pop => "pop" | .insert => "insert"
/-- what becomes of the list, what is handed back -/
def mmT : Mm → T → List T → Option (T × T)
  | .append, .lst ts, [u] => if ts.length < sizeLine then some (.lst (ts ++ [u]), .fz .non) else none
  | .extend, .lst ts, [.lst us] => if ts.length + us.length ≤ sizeLine then some (.lst (ts ++ us), .fz .non) else none
  | .reverse, .lst ts, [] => some (.lst ts.reverse, .fz .non)
  | .clear, .lst ts, [] => some (.lst [], .fz .non)
  | .pop, .lst ts, [] => match ts[ts.length - 1]? with
    | some u => some (.lst ts.dropLast, u)
    | none => none
  | .insert, .lst ts, [.fz (.int i), u] => if ts.length < sizeLine ∧ 0 ≤ i ∧ i < 2 ^ 63 then some (.lst (ts.take i.toNat ++ u :: ts.drop i.toNat), .fz .non) else none
  | _, _, _ => none
theorem RepTs.rev : ∀ {ts : List T} {vs : List V} {f : List Addr}, RepTs g Hs H ts vs f → ∃ f', RepTs g Hs H ts.reverse vs.reverse f' ∧ ∀ a, f'.count a = f.count a
  | [], vs, f, r => by
    simp only [RepTs] at r
    obtain ⟨rfl, rfl⟩ := r
    exact ⟨[], by simp only [List.reverse_nil, RepTs]; exact ⟨trivial, trivial⟩, fun _ => rfl⟩
  | t :: ts, vs, f, r => by
    simp only [RepTs] at r
    obtain ⟨v, vs', f1, f2, rfl, rfl, q, r⟩ := r
    obtain ⟨f3, r3, c3⟩ := RepTs.rev r
    refine ⟨f3 ++ f1, ?_, fun a => by rw [List.count_append, List.count_append, c3 a]; omega⟩
    simp only [List.reverse_cons]
    exact RepTs.append r3 (RepTs.one.mpr q)
theorem RepTs.split : ∀ (n : Nat) {ts : List T} {vs : List V} {f : List Addr}, RepTs g Hs H ts vs f → ∃ f1 f2, RepTs g Hs H (ts.take n) (vs.take n) f1 ∧ RepTs g Hs H (ts.drop n) (vs.drop n) f2 ∧ f = f1 ++ f2
  | 0, ts, vs, f, r => ⟨[], f, by simp only [List.take_zero, RepTs]; exact ⟨trivial, trivial⟩, by simpa using r, rfl⟩
  | n + 1, [], vs, f, r => by
    simp only [RepTs] at r
    obtain ⟨rfl, rfl⟩ := r
    exact ⟨[], [], by simp only [List.take_nil, RepTs]; exact ⟨trivial, trivial⟩, by simp only [List.drop_nil, RepTs]; exact ⟨trivial, trivial⟩, rfl⟩
  | n + 1, t :: ts, vs, f, r => by
    simp only [RepTs] at r
    obtain ⟨v, vs', f1, f2, rfl, rfl, q, r⟩ := r
    obtain ⟨f3, f4, r3, r4, rfl⟩ := RepTs.split n r
    refine ⟨f1 ++ f3, f4, ?_, by simpa using r4, by rw [List.append_assoc]⟩
    simp only [List.take_succ_cons, RepTs]
    exact ⟨v, _, f1, f3, rfl, rfl, q, r3⟩
/-- a rule of such a method -/
theorem mmR : ∀ m : Mm, ∃ id r, MtR X id r ∧ PlainAttrs "list" ∧ Slot "list" m.nm id ∧ typeOf (.builtin id) = pure (.type "method_descriptor") ∧
    ∀ {e ρ τ σ H Hs v t p s s' u ws us}, Ok g e ρ ((ws, us) :: ([v], [t]) :: τ) σ H Hs → subT p t = some s → mmT m s us = some (s', u) → ∃ w, Chain g H p t v w ∧ (∃ D xs, w = .ref D ∧ H D = some (.lst xs)) ∧
      ∀ Q : VK, (∀ v' H', Ok g e ρ (([v'], [u]) :: ([v], [putT p t s']) :: τ) σ H' Hs → Q v' H') → r w ws H Q := by
  intro m
  cases m
  case append =>
    refine ⟨_, _, mt_append, PySem.F.plainAttrs_list, PySem.F.slot_list_append, PySem.F.type_list_append, fun {e ρ τ σ H Hs v t p s s' u ws us} o hs hm => ?_⟩
    unfold mmT at hm
    split at hm <;> rename_i z <;> (try (cases z; done)) <;> (try (cases hm; done))
    rename_i ts u1
    split at hm <;> (try (cases hm; done))
    rename_i hz
    cases hm
    obtain ⟨D, ho, ts', acc, ch, hD, nd, hl, hw, k⟩ := o.wrP hs (.inl ⟨_, rfl⟩)
    cases nd
    match ws, hw with
    | [y], _ =>
      refine ⟨_, ch, ⟨D, acc, rfl, hD⟩, fun Q q => ⟨D, acc, y, rfl, rfl, hD, by rw [hl]; exact hz, q _ _ ?_⟩⟩
      exact k _ _ _ _ [.non] [.fz .non] .lst fun H' fu f kp ru rl => ⟨f ++ fu, [], RepTs.append rl ru, RepTs.one.mpr (RepT.fz (by simp only [Rep])), fun a => by rw [List.count_append]; simp; omega⟩
  case extend =>
    refine ⟨_, _, mt_extend, PySem.F.plainAttrs_list, PySem.F.slot_list_extend, PySem.F.type_list_extend, fun {e ρ τ σ H Hs v t p s s' u ws us} o hs hm => ?_⟩
    unfold mmT at hm
    split at hm <;> rename_i z <;> (try (cases z; done)) <;> (try (cases hm; done))
    rename_i ts us1
    split at hm <;> (try (cases hm; done))
    rename_i hz
    cases hm
    obtain ⟨D, ho, ts', acc, ch, hD, nd, hl, hw, k⟩ := o.wrP hs (.inl ⟨_, rfl⟩)
    cases nd
    match ws, hw with
    | [y], _ =>
      obtain ⟨f0, r0⟩ := o.top
      simp only [RepT] at r0
      obtain ⟨b, zs, f1, rfl, hb, _, r1⟩ := r0
      refine ⟨_, ch, ⟨D, acc, rfl, hD⟩, fun Q q => ⟨D, b, acc, zs, rfl, rfl, hD, hb, by rw [hl, r1.length]; exact hz, q _ _ ?_⟩⟩
      refine k _ _ _ _ [.non] [.fz .non] .lst fun H' fu f kp ru rl => ?_
      have ru' := RepTs.one.mp ru
      simp only [RepT] at ru'
      obtain ⟨b', zs', f2, e1, hb', rfl, r2⟩ := ru'
      cases e1
      rw [kp b (by simp), hb] at hb'
      cases hb'
      exact ⟨f ++ f2, [], RepTs.append rl r2, RepTs.one.mpr (RepT.fz (by simp only [Rep])), fun a => by rw [List.count_append, List.count_cons]; simp; omega⟩
  case reverse =>
    refine ⟨_, _, mt_reverse, PySem.F.plainAttrs_list, PySem.F.slot_list_reverse, PySem.F.type_list_reverse, fun {e ρ τ σ H Hs v t p s s' u ws us} o hs hm => ?_⟩
    unfold mmT at hm
    split at hm <;> rename_i z <;> (try (cases z; done)) <;> (try (cases hm; done))
    cases hm
    obtain ⟨D, ho, ts', acc, ch, hD, nd, hl, hw, k⟩ := o.wrP hs (.inl ⟨_, rfl⟩)
    cases nd
    match ws, hw with
    | [], _ =>
      refine ⟨_, ch, ⟨D, acc, rfl, hD⟩, fun Q q => ⟨D, acc, rfl, rfl, hD, q _ _ ?_⟩⟩
      refine k _ _ _ _ [.non] [.fz .non] .lst fun H' fu f kp ru rl => ?_
      obtain ⟨f', r', c'⟩ := rl.rev
      exact ⟨f', [], r', RepTs.one.mpr (RepT.fz (by simp only [Rep])), fun a => by rw [c' a]; simp⟩
  case clear =>
    refine ⟨_, _, mt_clear, PySem.F.plainAttrs_list, PySem.F.slot_list_clear, PySem.F.type_list_clear, fun {e ρ τ σ H Hs v t p s s' u ws us} o hs hm => ?_⟩
    unfold mmT at hm
    split at hm <;> rename_i z <;> (try (cases z; done)) <;> (try (cases hm; done))
    cases hm
    obtain ⟨D, ho, ts', acc, ch, hD, nd, hl, hw, k⟩ := o.wrP hs (.inl ⟨_, rfl⟩)
    cases nd
    match ws, hw with
    | [], _ =>
      refine ⟨_, ch, ⟨D, acc, rfl, hD⟩, fun Q q => ⟨D, acc, rfl, rfl, hD, q _ _ ?_⟩⟩
      exact k _ _ _ _ [.non] [.fz .non] .lst fun H' fu f kp ru rl => ⟨[], [], by simp only [RepTs]; exact ⟨trivial, trivial⟩, RepTs.one.mpr (RepT.fz (by simp only [Rep])), fun a => by simp⟩
  case pop =>
    refine ⟨_, _, mt_pop, PySem.F.plainAttrs_list, PySem.F.slot_list_pop, PySem.F.type_list_pop, fun {e ρ τ σ H Hs v t p s s' u ws us} o hs hm => ?_⟩
    unfold mmT at hm
    split at hm <;> rename_i z <;> (try (cases z; done)) <;> (try (cases hm; done))
    rename_i ts
    split at hm <;> (try (cases hm; done))
    rename_i u1 hu
    cases hm
    obtain ⟨D, ho, ts', acc, ch, hD, nd, hl, hw, k⟩ := o.wrP hs (.inl ⟨_, rfl⟩)
    cases nd
    match ws, hw with
    | [], _ =>
      have hpos : ts.length - 1 < ts.length := (List.getElem?_eq_some_iff.mp hu).1
      obtain ⟨y, hy⟩ : ∃ y, acc[acc.length - 1]? = some y := ⟨acc[acc.length - 1]'(by omega), List.getElem?_eq_getElem _⟩
      refine ⟨_, ch, ⟨D, acc, rfl, hD⟩, fun Q q => ⟨D, acc, y, rfl, rfl, hD, hy, q _ _ ?_⟩⟩
      refine k _ _ _ _ [y] [_] .lst fun H' fu f kp ru rl => ?_
      obtain ⟨f1, f2, r1, r2, rfl⟩ := RepTs.split (ts.length - 1) rl
      have e1 : ts.drop (ts.length - 1) = [u] := by
        rw [List.drop_eq_getElem_cons hpos, (List.getElem?_eq_some_iff.mp hu).2, show ts.length - 1 + 1 = ts.length by omega, List.drop_length]
      have e2 : acc.drop (ts.length - 1) = [y] := by
        rw [← hl, List.drop_eq_getElem_cons (by omega), (List.getElem?_eq_some_iff.mp hy).2, show acc.length - 1 + 1 = acc.length by omega, List.drop_length]
      rw [e1, e2] at r2
      refine ⟨f1, f2, ?_, r2, fun a => by rw [List.count_append]; omega⟩
      rw [List.dropLast_eq_take, List.dropLast_eq_take, hl]
      exact r1
  case insert =>
    refine ⟨_, _, mt_insert, PySem.F.plainAttrs_list, PySem.F.slot_list_insert, PySem.F.type_list_insert, fun {e ρ τ σ H Hs v t p s s' u ws us} o hs hm => ?_⟩
    unfold mmT at hm
    split at hm <;> rename_i z <;> (try (cases z; done)) <;> (try (cases hm; done))
    rename_i ts i u1
    split at hm <;> (try (cases hm; done))
    rename_i hz
    cases hm
    obtain ⟨D, ho, ts', acc, ch, hD, nd, hl, hw, k⟩ := o.wrP hs (.inl ⟨_, rfl⟩)
    cases nd
    match ws, hw with
    | [x, y], _ =>
      have hx : x = .int i := by
        obtain ⟨fs, ft, _, r, _⟩ := o.own
        obtain ⟨f, f', _, r, _⟩ := r
        simp only [RepTs] at r
        obtain ⟨v1, vs1, _, _, e1, _, q, _⟩ := r
        obtain ⟨rfl, _⟩ := List.cons.inj e1
        simp only [RepT, Rep] at q
        exact q.1
      refine ⟨_, ch, ⟨D, acc, rfl, hD⟩, fun Q q => ⟨D, acc, i, y, rfl, by rw [hx], hD, by rw [hl]; exact hz.1, hz.2.1, hz.2.2, q _ _ ?_⟩⟩
      refine k _ _ _ _ [.non] [.fz .non] .lst fun H' fu f kp ru rl => ?_
      obtain ⟨f1, f2, r1, r2, rfl⟩ := RepTs.split i.toNat rl
      simp only [RepTs] at ru
      obtain ⟨v1, vs1, g1, g2, e1, rfl, q1, v2, vs2, g3, g4, e2, rfl, q2, e3, rfl⟩ := ru
      obtain ⟨rfl, rfl⟩ := List.cons.inj e1
      obtain ⟨rfl, rfl⟩ := List.cons.inj e2
      refine ⟨(f1 ++ g3) ++ f2, [], ?_, RepTs.one.mpr (RepT.fz (by simp only [Rep])), fun a => by simp only [List.count_append, List.count_nil]; omega⟩
      have := RepTs.append (RepTs.append r1 (RepTs.one.mpr q2)) r2
      rw [List.append_assoc _ [_] _] at this
      exact this
end
end DL
namespace DL
open PySem PySem.Spec L2

/-! ### paths in the text -/
inductive Pt where
  | s (i : Nat) | ix (a : Pt) (q : P)
def keyIx : List Key → Key → Option Nat
  | [], _ => none
  | k :: ks, k' => if k = k' then some 0 else (keyIx ks k').map (· + 1)
def rsvPos : T → D → Option Nat
  | .lst ts, .int i => ixN ts.length i
  | .tup ts, .int i => ixN ts.length i
  | .dic ks _, d => (keyOf d).bind (keyIx ks)
  | _, _ => none
def rsvPt : Pt → Sl → Option (Nat × List Nat × T)
  | .s i, ρ => match ρ[i]? with
    | some (some t) => some (i, [], t)
    | _ => none
  | .ix a q, ρ => match rsvPt a ρ with
    | some (i, p, s) => match evP q ρ with
      | some x => match rsvPos s x.d with
        | some j => match subT [j] s with
          | some u => some (i, p ++ [j], u)
          | none => none
        | none => none
      | none => none
    | none => none
def Pt.sl : Pt → Nat
  | .s i => i
  | .ix a _ => a.sl
def mtPt (c : Cxt) : Pt → Expr → Bool
  | .s i, .Name x _ => c.N[i]? == some x && visB c x
  | .ix a q, .Subscript e1 e2 _ => !slB e2 && mtPt c a e1 && mtP c q e2
  | _, _ => false
section
variable {X : Cx} {g : Gx} {c : Cxt} {W : WX} {e : Fr0} {ρ ρ' : Sl} {τ : Tm} {σ σ' : L2.St} {H H' Hs Hs' : Hp}
theorem subT_app : ∀ {p : List Nat} {t s : T} {j : Nat}, subT p t = some s → subT (p ++ [j]) t = subT [j] s
  | [], t, s, j, h => by simp only [subT] at h; cases h; rfl
  | i :: p, .fz d, s, j, h => by simp [subT] at h
  | i :: p, .lst ts, s, j, h => by
    simp only [subT, Option.bind_eq_some_iff] at h
    obtain ⟨u, hu, h⟩ := h
    simp only [List.cons_append, subT, hu, Option.bind_some]
    exact subT_app h
  | i :: p, .tup ts, s, j, h => by
    simp only [subT, Option.bind_eq_some_iff] at h
    obtain ⟨u, hu, h⟩ := h
    simp only [List.cons_append, subT, hu, Option.bind_some]
    exact subT_app h
  | i :: p, .dic ks ts, s, j, h => by
    simp only [subT, Option.bind_eq_some_iff] at h
    obtain ⟨u, hu, h⟩ := h
    simp only [List.cons_append, subT, hu, Option.bind_some]
    exact subT_app h
  | i :: p, .obj cc ns ts, s, j, h => by
    simp only [subT, Option.bind_eq_some_iff] at h
    obtain ⟨u, hu, h⟩ := h
    simp only [List.cons_append, subT, hu, Option.bind_some]
    exact subT_app h
theorem Chain.app : ∀ {p : List Nat} {t s : T} {v w w' : V} {j : Nat}, subT p t = some s → Chain g H p t v w → Chain g H [j] s w w' → Chain g H (p ++ [j]) t v w'
  | [], t, s, v, w, w', j, h, h1, h2 => by simp only [subT] at h; cases h; simp only [Chain] at h1; subst h1; exact h2
  | i :: p, .fz d, s, v, w, w', j, h, _, _ => by simp [subT] at h
  | i :: p, .lst ts, s, v, w, w', j, h, h1, h2 => by
    simp only [subT, Option.bind_eq_some_iff] at h
    obtain ⟨u, hu, h⟩ := h
    simp only [Chain, List.cons_append] at h1 ⊢
    obtain ⟨a, vs, u', t', e1, e2, e3, e4, e5, h1⟩ := h1
    rw [hu] at e5
    cases e5
    exact ⟨a, vs, u', _, e1, e2, e3, e4, hu, Chain.app h h1 h2⟩
  | i :: p, .tup ts, s, v, w, w', j, h, h1, h2 => by
    simp only [subT, Option.bind_eq_some_iff] at h
    obtain ⟨u, hu, h⟩ := h
    simp only [Chain, List.cons_append] at h1 ⊢
    obtain ⟨a, vs, u', t', e1, e2, e3, e4, e5, h1⟩ := h1
    rw [hu] at e5
    cases e5
    exact ⟨a, vs, u', _, e1, e2, e3, e4, hu, Chain.app h h1 h2⟩
  | i :: p, .dic ks ts, s, v, w, w', j, h, h1, h2 => by
    simp only [subT, Option.bind_eq_some_iff] at h
    obtain ⟨u, hu, h⟩ := h
    simp only [Chain, List.cons_append] at h1 ⊢
    obtain ⟨a, vs, u', t', e1, e2, e3, e4, e5, e6, h1⟩ := h1
    rw [hu] at e6
    cases e6
    exact ⟨a, vs, u', _, e1, e2, e3, e4, e5, hu, Chain.app h h1 h2⟩
  | i :: p, .obj cc ns ts, s, v, w, w', j, h, h1, h2 => by
    simp only [subT, Option.bind_eq_some_iff] at h
    obtain ⟨u, hu, h⟩ := h
    simp only [Chain, List.cons_append] at h1 ⊢
    obtain ⟨a, dx, vs, u', t', e1, e2, e3, e4, e5, e6, h1⟩ := h1
    rw [hu] at e6
    cases e6
    exact ⟨a, dx, vs, u', _, e1, e2, e3, e4, e5, hu, Chain.app h h1 h2⟩
theorem Chain.det : ∀ {p : List Nat} {t : T} {v w w' : V}, Chain g H p t v w → Chain g H p t v w' → w = w'
  | [], t, v, w, w', h1, h2 => by simp only [Chain] at h1 h2; rw [h1, h2]
  | i :: p, .fz d, v, w, w', h1, _ => by simp [Chain] at h1
  | i :: p, .lst ts, v, w, w', h1, h2 => by
    simp only [Chain] at h1 h2
    obtain ⟨a, vs, u, t1, rfl, e2, e3, e4, e5, h1⟩ := h1
    obtain ⟨a', vs', u', t2, e1, f2, f3, f4, f5, h2⟩ := h2
    cases e1
    rw [e2] at f2
    cases f2
    rw [e4] at f4
    rw [e5] at f5
    cases f4
    cases f5
    exact Chain.det h1 h2
  | i :: p, .tup ts, v, w, w', h1, h2 => by
    simp only [Chain] at h1 h2
    obtain ⟨a, vs, u, t1, rfl, e2, e3, e4, e5, h1⟩ := h1
    obtain ⟨a', vs', u', t2, e1, f2, f3, f4, f5, h2⟩ := h2
    cases e1
    rw [e2] at f2
    cases f2
    rw [e4] at f4
    rw [e5] at f5
    cases f4
    cases f5
    exact Chain.det h1 h2
  | i :: p, .dic ks ts, v, w, w', h1, h2 => by
    simp only [Chain] at h1 h2
    obtain ⟨a, vs, u, t1, rfl, e2, e3, e3', e4, e5, h1⟩ := h1
    obtain ⟨a', vs', u', t2, e1, f2, f3, f3', f4, f5, h2⟩ := h2
    cases e1
    rw [e2] at f2
    have h3 := Option.some.inj f2
    injection h3 with h3
    have e2 : vs = vs' := by
      have := congrArg (List.map Prod.snd) h3
      rwa [List.map_snd_zip (by omega), List.map_snd_zip (by omega)] at this
    subst e2
    rw [e4] at f4
    rw [e5] at f5
    cases f4
    cases f5
    exact Chain.det h1 h2
  | i :: p, .obj cc ns ts, v, w, w', h1, h2 => by
    simp only [Chain] at h1 h2
    obtain ⟨a, dx, vs, u, t1, rfl, e2, e3, e3', e4, e5, h1⟩ := h1
    obtain ⟨a', dx', vs', u', t2, e1, f2, f3, f3', f4, f5, h2⟩ := h2
    cases e1
    rw [e2] at f2
    have h3 := Option.some.inj f2
    injection h3 with h4 h5 h3
    have e2 : vs = vs' := by
      have := congrArg (List.map Prod.snd) h3
      rwa [List.map_snd_zip (by omega), List.map_snd_zip (by omega)] at this
    subst e2
    rw [e4] at f4
    rw [e5] at f5
    cases f4
    cases f5
    exact Chain.det h1 h2
/-- a path leads to a part of a slot's tree -/
structure PtAt (g : Gx) (Hs H : Hp) (ρ : Sl) (σ : L2.St) (i : Nat) (p : List Nat) (s : T) (w : V) : Prop where
  at_ : ∃ v t fp, σ[i]? = some (some v) ∧ ρ[i]? = some (some t) ∧ subT p t = some s ∧ RepT g Hs H t v fp ∧ Chain g H p t v w
  rep : ∃ f, RepT g Hs H s w f
def PtJ (X : Cx) (g : Gx) (a : Pt) (ex : Expr) : Prop :=
  ∃ te, PE X ex te ∧ ∀ ρ σ H Hs O i p s, View g Hs H O ρ σ → rsvPt a ρ = some (i, p, s) → ∀ Q : VK, (∀ w, PtAt g Hs H ρ σ i p s w → Q w H) → te σ H Q
theorem keyIx_val : ∀ {ks : List Key} {vs : List V} {k : Key} {j : Nat}, keyIx ks k = some j → ks.length = vs.length → ∃ v, vs[j]? = some v ∧ valV (ks.zip vs) k = some v
  | [], _, _, _, h, _ => by simp [keyIx] at h
  | k0 :: ks, [], _, _, _, l => by simp at l
  | k0 :: ks, v0 :: vs, k, j, h, l => by
    simp only [keyIx] at h
    rw [List.zip_cons_cons]
    split at h
    · rename_i z
      cases h
      exact ⟨v0, rfl, valV_pos z⟩
    · rename_i z
      simp only [Option.map_eq_some_iff] at h
      obtain ⟨j', h, rfl⟩ := h
      obtain ⟨v, h1, h2⟩ := keyIx_val h (by simpa using l)
      exact ⟨v, by simpa using h1, by rw [valV_neg z]; exact h2⟩
theorem sndPt (k : Cp X g c) : ∀ (a : Pt) (ex : Expr), mtPt c a ex = true → PtJ X g a ex
  | .s i, ex, h => by
    unfold mtPt at h
    split at h <;> rename_i z <;> (try (cases z; done)) <;> (try (cases h; done))
    cases z
    simp only [Bool.and_eq_true, beq_iff_eq] at h
    obtain ⟨v1, v2, v3⟩ := k.vis h.2
    refine ⟨_, pe_var (i := i) (by rw [k.N]; exact h.1) v1 v2 v3, fun ρ σ H Hs O j p s vw hr Q q => ?_⟩
    simp only [rsvPt] at hr
    split at hr <;> (try (cases hr; done))
    rename_i t ht
    cases hr
    obtain ⟨v, fp, h1, h2, _⟩ := vw.at_ _ _ ht
    exact ⟨v, h1, q v ⟨⟨v, _, fp, h1, ht, by simp [subT], h2, by simp [Chain]⟩, fp, h2⟩⟩
  | .ix a q, ex, h => by
    unfold mtPt at h
    split at h <;> rename_i z <;> (try (cases z; done)) <;> (try (cases h; done))
    cases z
    simp only [Bool.and_eq_true, Bool.not_eq_true'] at h
    obtain ⟨⟨h1, h2⟩, h3⟩ := h
    obtain ⟨ta, pa, ra⟩ := sndPt k a _ h2
    obtain ⟨tb, pb, rb⟩ := (soundP k q _ h3).1
    refine ⟨_, pe_ix (ix_seq.or (ix_dict (by have := k.hu; omega))) pa pb (plainIx h1), fun ρ σ H Hs O j p s vw hr Q qq => ?_⟩
    simp only [rsvPt] at hr
    split at hr <;> (try (cases hr; done))
    rename_i i1 p1 s1 hr1
    split at hr <;> (try (cases hr; done))
    rename_i x hx
    split at hr <;> (try (cases hr; done))
    rename_i j1 hj
    split at hr <;> (try (cases hr; done))
    rename_i u hu
    cases hr
    refine ra ρ σ H Hs O _ _ _ vw hr1 _ fun w pt => rb ρ σ H Hs O x vw hx _ fun y fy ry => ?_
    have ryd := ry.r.now vw.sub
    obtain ⟨v, t, fp, e1, e2, e3, e4, e5⟩ := pt.at_
    obtain ⟨f, rs⟩ := pt.rep
    obtain ⟨w', fs', fr', c1, c2, c3, c4⟩ := rs.sub vw.sub hu
    clear c3 c4
    have fin : PtAt g Hs H ρ σ j (p1 ++ [j1]) s w' := ⟨⟨v, t, fp, e1, e2, by rw [subT_app e3]; exact hu, e4, e5.app e3 c1⟩, fs', c2⟩
    generalize x.d = xd at hj ryd
    unfold rsvPos at hj
    split at hj <;> (try (cases hj; done))
    · rename_i ts i2
      simp only [Rep] at ryd
      subst ryd
      simp only [Chain] at c1
      obtain ⟨a', vs, u', t', rfl, f1, f2, f3, f4, f5⟩ := c1
      subst f5
      refine .inl (.inl ⟨a', vs, i2, _, rfl, rfl, SqL.of f1, ?_, qq _ fin⟩)
      unfold atI
      rw [f2, hj]
      exact f3
    · rename_i ts i2
      simp only [Rep] at ryd
      subst ryd
      simp only [Chain] at c1
      obtain ⟨a', vs, u', t', rfl, f1, f2, f3, f4, f5⟩ := c1
      subst f5
      refine .inl (.inr (.inl ⟨a', vs, i2, _, rfl, rfl, SqT.of f1, ?_, qq _ fin⟩))
      unfold atI
      rw [f2, hj]
      exact f3
    · rename_i ks ts
      simp only [Option.bind_eq_some_iff] at hj
      obtain ⟨kk, hk1, hj⟩ := hj
      simp only [Chain] at c1
      obtain ⟨a', vs, u', t', rfl, f1, f2, f2', f3, f4, f5⟩ := c1
      subst f5
      rw [keyOf_kV hk1 ryd]
      obtain ⟨v', g1, g2⟩ := keyIx_val hj f2
      rw [f3] at g1
      cases g1
      exact .inr ⟨a', _, rfl, .inl ⟨_, kk, .inl f1, rfl, g2.symm⟩, qq _ fin⟩
theorem att_base {o : Expr} {nm : Str} {env : PySem.Env} {w : Sem Value} {a : Pt} {c : Cxt} (h : mtPt c a o = true) : attributeBase o nm env w = w := by
  cases o <;> first | rfl | (cases a <;> simp [mtPt] at h)
theorem few_ok {e : Expr} {es : List Expr} {env : PySem.Env} {pos : Pos} (h : ∀ x ∈ e :: es, starB x = false) (hl : es.length < 25) : ((backTo pos (starEach (e :: es) env)).all (fun x => !x.1) && (backToKw pos (keywordEach [] env)).all (fun x => x.1.isSome)
      && decide ((e :: es).length + ([] : List Keyword).length + (if ([] : List Keyword).isEmpty then 0 else 1) < 30)) = true := by
  have := star_none (env := env) (pos := pos) h
  simp only [List.any_eq_false] at this
  simp only [Bool.and_eq_true, List.all_eq_true, decide_eq_true_eq]
  refine ⟨⟨fun x hx => by simpa using this x hx, fun x hx => by simp [backToKw, keywordEach] at hx⟩, by simp; omega⟩
theorem PtAt.listy {i : Nat} {p : List Nat} {s : T} {w : V} (hk : g.K = X.K) (h : PtAt g Hs H ρ σ i p s w) (hl : ∃ ts, s = .lst ts) : tyV X.K "list" w H := by
  obtain ⟨ts, rfl⟩ := hl
  obtain ⟨f, r⟩ := h.rep
  simp only [RepT] at r
  obtain ⟨a, vs, f', rfl, ha, _⟩ := r
  exact .inl ⟨rfl, vs, SqL.of ha⟩
/-- the slot is taken, its part written, and put back -/
theorem Ok.atPt {i : Nat} {p : List Nat} {s : T} {w : V} {ws : List V} {us : List T} {m : Mm} {s' u : T} (o : Ok g e ρ ((ws, us) :: τ) σ H Hs) (pt : PtAt g Hs H ρ σ i p s w) (hm : mmT m s us = some (s', u)) {r : V → List V → Hp → VK → Prop}
    (hr : ∀ {e ρ τ σ H Hs v t p s s' u ws us}, Ok g e ρ ((ws, us) :: ([v], [t]) :: τ) σ H Hs → subT p t = some s → mmT m s us = some (s', u) → ∃ w, Chain g H p t v w ∧ (∃ D xs, w = .ref D ∧ H D = some (.lst xs)) ∧
      ∀ Q : VK, (∀ v' H', Ok g e ρ (([v'], [u]) :: ([v], [putT p t s']) :: τ) σ H' Hs → Q v' H') → r w ws H Q) {Q : VK}
    (q : ∀ t v' H', ρ[i]? = some (some t) → Ok g e (ρ.set i (some (putT p t s'))) (([v'], [u]) :: τ) σ H' Hs → Q v' H') : r w ws H Q := by
  obtain ⟨v, t, fp, e1, e2, e3, e4, e5⟩ := pt.at_
  obtain ⟨v2, hv, o1⟩ := o.take e2
  rw [e1] at hv
  cases hv
  obtain ⟨w', c1, _, k⟩ := hr o1.swap e3 hm
  have := e5.det c1
  subst this
  refine k Q fun v' H' o2 => q t v' H' e2 ?_
  have o3 := o2.swap.back (i := i) e1
  rw [List.set_set] at o3
  exact o3
end
end DL
namespace DL
open PySem PySem.Spec L2

/-! ### a def that may be called, in one form of call: so many by place, these by name; no repr is under way -/
def FnF (P : Program) (w : World) (K : PySem.W.Frag) (mg : Str → Option Value) (base : Heap) (k : Nat) (f : Addr) (n : Nat) (ks : List Str) (sp : Sp) : Prop :=
  ∀ (A : Around) (outer : List Env) (s : Shared) (H : Hp) (us ws : List Value) (vs zs : List V) (Q : VK) (E : XK), Room k A → A.guards = some [] → Env0 P w K mg base A outer s H → Vals vs us → Vals zs ws → us.length = n → ws.length = ks.length → sp (vs ++ zs) H Q E →
    codeAny (model P w) A (.call (.ref f) ⟨us, ks.zip ws⟩) (CR (L2.CX P w) outer P w H s Q E) s
/-- keywords' values: pure -/
def KqJ (X : Cx) (g : Gx) (f : Sl → Option (List T)) (kws : List Keyword) : Prop :=
  ∃ tk, PK X kws tk ∧ ∀ ρ σ H Hs O ts, View g Hs H O ρ σ → f ρ = some ts → ∀ Q : List V → Hp → Prop, (∀ vs, (∃ fs, RepTs g Hs H ts vs fs) → Q vs H) → tk σ H Q
def pickL {α : Type} (idx : List Nat) (xs : List α) : List α := idx.filterMap fun j => xs[j]?
/-- all that is handed over is frozen -/
def allFzA : List AV → Option (List D)
  | [] => some []
  | .own (.fz d) :: r => (allFzA r).map (d :: ·)
  | .bor (.fz d) :: r => (allFzA r).map (d :: ·)
  | _ => none
abbrev ownsA (ds : List D) : List AV := ds.map fun d => AV.own (.fz d)
section
variable {X : Cx} {g : Gx} {c : Cxt} {W : WX} {f : Addr} {k n : Nat} {ks : List Str} {sp : Sp} {pins : List (Addr × Obj)} {σ : L2.St} {H Hs : Hp} {s : Shared} {e : Fr0} {ρ : Sl} {τ : Tm}
theorem fnF_run {Q : VK} {us ws : List Value} {vs zs : List V} (F : FnF X.prog X.w X.K X.mg X.base k f n ks sp) (hr : Room k X.A) (hg : X.A.guards = some []) (tk : Takes X W) (I : Inv X pins σ H s) (r : Vals vs us) (rz : Vals zs ws) (hn : us.length = n) (hw : ws.length = ks.length) (h : sp (vs ++ zs) H Q (WE W σ)) :
    wpAny (model X.prog X.w) X.A (call (.ref f) us (ks.zip ws)) (EP X pins σ Q) X.xe s := by
  refine wpAny_call (codeAny_mono (F X.A X.stack s H us ws vs zs Q (WE W σ) hr hg I.env0 r rz hn hw h) fun res s' out => ?_)
  match res, out with
  | .error e, out => exact passAt tk σ pins H s e s' I out
  | .ok (.ret u), out => exact I.after out
def tcF (n : Nat) (sp : Sp) (W : WX) (ta : TA) : TE := fun σ H Q => ta σ H fun vs H1 => vs.length = n ∧ sp vs H1 Q (WE W σ)
def tcK (n m : Nat) (sp : Sp) (W : WX) (ta tk : TA) : TE := fun σ H Q => ta σ H fun vs H1 => vs.length = n ∧ tk σ H1 fun zs H2 => zs.length = m ∧ sp (vs ++ zs) H2 Q (WE W σ)
/-- f() -/
theorem pe_callF0 {x : Str} {p pos : Pos} (F : FnF X.prog X.w X.K X.mg X.base k f 0 [] sp) (hr : Room k X.A) (kc : Cp X g c) (tk : Takes X W) (hg : Gl X x) (hm : X.mg x = some (.ref f)) (hk : PySem.W.keepIn X.K (.ref f) = true)
    (hdb : (x == ("__debug__" : Str)) = false) : PE X (.Call (.Name x p) [] [] pos) (fun σ H Q => sp [] H Q (WE W σ)) :=
  ⟨fun _ _ _ _ _ J hq => wpAny_Call_Name_kw (ld_glob J hg hm (PySem.W.callWith_K0 J.kIn hk (fnF_run (us := []) (ws := []) (vs := []) (zs := []) F hr kc.gd tk J .nil .nil rfl rfl hq)) hdb)⟩
/-- f(e, ..) by place alone -/
theorem pe_callF {x : Str} {e1 : Expr} {es : List Expr} {ta : TA} {p pos : Pos} (F : FnF X.prog X.w X.K X.mg X.base k f n [] sp) (hr : Room k X.A) (kc : Cp X g c) (tk : Takes X W) (hg : Gl X x) (hm : X.mg x = some (.ref f)) (hk : PySem.W.keepIn X.K (.ref f) = true)
    (hdb : (x == ("__debug__" : Str)) = false) (hs : ∀ e ∈ e1 :: es, starB e = false) (ha : PA X (e1 :: es) ta) : PE X (.Call (.Name x p) (e1 :: es) [] pos) (tcF n sp W ta) := by
  refine ⟨fun pn s0 σ0 H0 Q0 J hq => wpAny_Call_Name_kw (ld_glob J hg hm ?_ hdb)⟩
  refine PySem.W.callWith_K (h₀ := X.base) J.ok.mod.kin hk (thn (ha.run pos pn s0 σ0 H0 _ J hq) fun us s1 ⟨vs, H1, I1, r, l, q⟩ => ⟨I1.kIn, ?_⟩) (star_cons (hs _ (by simp))) (star_none fun e he => hs e (by simp [he]))
  exact fnF_run (us := us) (zs := []) (ws := []) F hr kc.gd tk I1 r .nil (by rw [← r.length]; exact l) rfl (by rw [List.append_nil]; exact q)
theorem kwd_all {kws : List Keyword} {env : PySem.Env} {pos : Pos} {ks : List Str} (h : kws.map (fun q => q.arg) = ks.map some) : (backToKw pos (keywordEach kws env)).all (·.1.isSome) = true ∧ (backToKw pos (keywordEach kws env)).filterMap (·.1) = ks ∧ (backToKw pos (keywordEach kws env)).any (·.1.isNone) = false := by
  induction kws generalizing ks with
  | nil =>
    cases ks with
    | nil => exact ⟨rfl, rfl, rfl⟩
    | cons a b => cases h
  | cons q kws ih =>
    cases ks with
    | nil => cases h
    | cons a ks =>
      obtain ⟨nm, v, kp⟩ := q
      simp only [List.map_cons, List.cons.injEq] at h
      obtain ⟨h1, h2, h3⟩ := ih h.2
      have e : backToKw pos (keywordEach (⟨nm, v, kp⟩ :: kws) env) = (some a, (do let u ← eval v env; standAt pos; pure u)) :: backToKw pos (keywordEach kws env) := by
        rw [← h.1]; rfl
      rw [e]
      exact ⟨by rw [List.all_cons, h1]; rfl, by rw [List.filterMap_cons, h2], by rw [List.any_cons, h3]; rfl⟩
/-- f(.., k = v, ..) -/
theorem pe_callFK {x : Str} {e1 : Expr} {es : List Expr} {kws : List Keyword} {ta tkw : TA} {p pos : Pos} (F : FnF X.prog X.w X.K X.mg X.base k f n ks sp) (hr : Room k X.A) (kc : Cp X g c) (tk : Takes X W) (hg : Gl X x) (hm : X.mg x = some (.ref f)) (hk : PySem.W.keepIn X.K (.ref f) = true)
    (hdb : (x == ("__debug__" : Str)) = false) (hs : ∀ e ∈ e1 :: es, starB e = false) (hks : kws.map (fun q => q.arg) = ks.map some) (ha : PA X (e1 :: es) ta) (hkw : PK X kws tkw) : PE X (.Call (.Name x p) (e1 :: es) kws pos) (tcK n ks.length sp W ta tkw) := by
  refine ⟨fun pn s0 σ0 H0 Q0 J hq => wpAny_Call_Name_kw (ld_glob J hg hm ?_ hdb)⟩
  obtain ⟨k1, k2, k3⟩ := kwd_all (env := X.env) (pos := pos) hks
  refine PySem.W.callWith_KW (h₀ := X.base) J.ok.mod.kin hk k1 (thn (ha.run pos pn s0 σ0 H0 _ J hq) fun us s1 ⟨vs, H1, I1, r, l, q⟩ => thn (hkw.run pos pn s1 σ0 H1 _ I1 q) fun ws s2 ⟨zs, H2, I2, rz, lz, q2⟩ => ⟨I2.kIn, ?_⟩) (by rw [star_none hs, k3]; rfl) (star_cons (hs _ (by simp)))
  rw [k2]
  exact fnF_run (us := us) (zs := zs) F hr kc.gd tk I2 r rz (by rw [← r.length]; exact l) (by rw [← rz.length]; exact lz) q2
/-- f(k = v, ..) -/
theorem pe_callFK0 {x : Str} {kws : List Keyword} {tkw : TA} {p pos : Pos} (F : FnF X.prog X.w X.K X.mg X.base k f 0 ks sp) (hr : Room k X.A) (kc : Cp X g c) (tk : Takes X W) (hg : Gl X x) (hm : X.mg x = some (.ref f)) (hk : PySem.W.keepIn X.K (.ref f) = true)
    (hdb : (x == ("__debug__" : Str)) = false) (hks : kws.map (fun q => q.arg) = ks.map some) (hkw : PK X kws tkw) : PE X (.Call (.Name x p) [] kws pos) (fun σ H Q => tkw σ H fun zs H2 => zs.length = ks.length ∧ sp zs H2 Q (WE W σ)) := by
  refine ⟨fun pn s0 σ0 H0 Q0 J hq => wpAny_Call_Name_kw (ld_glob J hg hm ?_ hdb)⟩
  obtain ⟨k1, k2, k3⟩ := kwd_all (env := X.env) (pos := pos) hks
  refine PySem.W.callWith_KW0 (h₀ := X.base) J.ok.mod.kin hk k1 (thn (hkw.run pos pn s0 σ0 H0 _ J hq) fun ws s2 ⟨zs, H2, I2, rz, lz, q2⟩ => ⟨I2.kIn, ?_⟩) (by rw [k3]; rfl)
  rw [k2]
  exact fnF_run (us := []) (vs := []) (zs := zs) F hr kc.gd tk I2 .nil rz rfl (by rw [← rz.length]; exact lz) q2

/-! keywords' values -/
theorem kqj_nil : KqJ X g (fun _ => some []) [] := ⟨_, pk_nil, fun ρ σ H Hs O ts vw h Q q => by cases h; exact q [] ⟨[], by simp only [RepTs]; exact ⟨trivial, trivial⟩⟩⟩
theorem kqj_cons {q : P} {ex : Expr} {nm : Option Str} {kp : Pos} {kws : List Keyword} {fr : Sl → Option (List T)} (hp : PJ X g (evP q) ex) (hr : KqJ X g fr kws) : KqJ X g (fun ρ => (evP q ρ).bind fun t => (fr ρ).map (t :: ·)) (⟨nm, ex, kp⟩ :: kws) := by
  obtain ⟨ta, pa, ra⟩ := hp
  obtain ⟨tb, pb, rb⟩ := hr
  refine ⟨_, pk_cons pa pb, fun ρ σ H Hs O ts vw h Q q => ?_⟩
  simp only [Option.bind_eq_some_iff, Option.map_eq_some_iff] at h
  obtain ⟨t, ht, us, hu, rfl⟩ := h
  refine ra ρ σ H Hs O t vw ht _ fun v fp rv => rb ρ σ H Hs O us vw hu _ fun vs ⟨fs, rs⟩ => q _ ⟨fp ++ fs, ?_⟩
  simp only [RepTs]
  exact ⟨v, vs, fp, fs, rfl, rfl, rv.r, rs⟩

/-! what is handed over frozen -/
theorem allFzA_rep : ∀ {avs : List AV} {ds : List D} {vs vo : List V} {to : List T}, ARel g Hs H ρ σ avs vs vo to → (∃ f, RepTs g Hs H to vo f) → allFzA avs = some ds → Reps g Hs ds vs
  | [], _, _, _, _, ar, _, h => by
    cases h
    obtain ⟨rfl, _⟩ := ar
    simp only [Reps]
  | .own (.fz d) :: r, ds, _, _, _, ar, ro, h => by
    simp only [allFzA, Option.map_eq_some_iff] at h
    obtain ⟨ds', h, rfl⟩ := h
    obtain ⟨v, vs', vo', to', rfl, rfl, rfl, ar⟩ := ar
    obtain ⟨f, ro⟩ := ro
    simp only [RepTs] at ro
    obtain ⟨v1, vs1, f1, f2, e1, _, q, ro⟩ := ro
    obtain ⟨rfl, rfl⟩ := List.cons.inj e1
    simp only [RepT] at q
    simp only [Reps]
    exact ⟨v, vs', rfl, q.1, allFzA_rep (vs := vs') (vo := vo') (to := to') ar ⟨f2, ro⟩ h⟩
  | .bor (.fz d) :: r, ds, _, _, _, ar, ro, h => by
    simp only [allFzA, Option.map_eq_some_iff] at h
    obtain ⟨ds', h, rfl⟩ := h
    obtain ⟨v, vs', rfl, ⟨f, rf, _⟩, ar⟩ := ar
    simp only [RepT] at rf
    simp only [Reps]
    exact ⟨v, vs', rfl, rf.1, allFzA_rep (vs := vs') ar ro h⟩
  | .own (.lst _) :: _, _, _, _, _, _, _, h => by cases h
  | .own (.tup _) :: _, _, _, _, _, _, _, h => by cases h
  | .own (.dic _ _) :: _, _, _, _, _, _, _, h => by cases h
  | .own (.obj _ _ _) :: _, _, _, _, _, _, _, h => by cases h
  | .bor (.lst _) :: _, _, _, _, _, _, _, h => by cases h
  | .bor (.tup _) :: _, _, _, _, _, _, _, h => by cases h
  | .bor (.dic _ _) :: _, _, _, _, _, _, _, h => by cases h
  | .bor (.obj _ _ _) :: _, _, _, _, _, _, _, h => by cases h
  | .io _ :: _, _, _, _, _, _, _, h => by cases h
theorem ArgsOk.allFz {avs : List AV} {vs : List V} {ds : List D} (a : ArgsOk g e τ σ avs ρ vs H Hs) (h : allFzA avs = some ds) : Reps g Hs ds vs ∧ Ok g e ρ τ σ H Hs := by
  obtain ⟨vo, to, o, ar⟩ := a
  have ro : ∃ f, RepTs g Hs H to vo f := by
    obtain ⟨fs, ft, _, r, _⟩ := o.own
    obtain ⟨f, f', _, r, _⟩ := r
    exact ⟨f, r⟩
  exact ⟨allFzA_rep (vs := vs) (vo := vo) (to := to) ar ro h, o.drop⟩
theorem ARel.owns : ∀ {ds : List D} {vs : List V}, vs.length = ds.length → ARel g Hs H ρ σ (ownsA ds) vs vs (ds.map T.fz)
  | [], [], _ => ⟨rfl, rfl, rfl⟩
  | [], _ :: _, h => by simp at h
  | _ :: _, [], h => by simp at h
  | d :: ds, v :: vs, h => ⟨v, vs, vs, ds.map T.fz, rfl, rfl, rfl, ARel.owns (by simpa using h)⟩
theorem SpD.frozen {F : List T → Option Out} {vs : List V} {ds : List D} {Q : VK} (o : Ok g e ρ τ σ H Hs) (r : Reps g Hs ds vs) (q : Post g W e τ σ one (callD F (ownsA ds) ρ) Q) : SpD g F vs H Q (WE W σ) :=
  SpD.use (o.pushs r) (ARel.owns r.length) q
theorem Reps.pick {ds : List D} {vs : List V} (r : Reps g Hs ds vs) : ∀ (idx : List Nat), Reps g Hs (pickL idx ds) (pickL idx vs)
  | [] => by simp only [pickL, List.filterMap_nil, Reps]
  | j :: idx => by
    have ih := Reps.pick r idx
    unfold pickL at ih ⊢
    rw [List.filterMap_cons, List.filterMap_cons]
    cases hd : ds[j]? with
    | none =>
      have : vs[j]? = none := by
        rw [List.getElem?_eq_none_iff] at hd ⊢
        rw [r.length]; exact hd
      rw [this]
      exact ih
    | some d =>
      obtain ⟨v, hv, rv⟩ := r.at_ j d hd
      rw [hv]
      simp only [Reps]
      exact ⟨v, _, rfl, rv, ih⟩
/-! the forms of a call -/
/-- how a def of the text stands, in one form of call -/
structure FnAtF (X : Cx) (nm : Str) (n : Nat) (ks : List Str) (sp : Sp) : Prop where
  ex : ∃ (f : Addr) (j : Nat), X.mg nm = some (.ref f) ∧ PySem.W.keepIn X.K (.ref f) = true ∧ FnF X.prog X.w X.K X.mg X.base j f n ks sp ∧ Room j X.A
def spStar (g : Gx) (F : List T → Option Out) (m : Nat) : Sp := fun vs H Q E => (vs.drop m).length ≤ sizeLine ∧ ∀ p, H p = none → SpD g F (vs.take m ++ [.ref p]) (upd H p (.tup (vs.drop m))) Q E
def callKw (F : List T → Option Out) (idx : List Nat) (avs : List AV) (ρ : Sl) : Option (Rs T) :=
  match allFzA avs with
  | some ds => callD F (ownsA (pickL idx ds)) ρ
  | none => none
def callSt (F : List T → Option Out) (m : Nat) (avs : List AV) (ρ : Sl) : Option (Rs T) :=
  match allFzA avs with
  | some ds => if (ds.drop m).length ≤ sizeLine then callD F (ownsA (ds.take m ++ [.tup (ds.drop m)])) ρ else none
  | none => none
theorem spStar_use {F : List T → Option Out} {m : Nat} {vs : List V} {ds : List D} {Q : VK} (o : Ok g e ρ τ σ H Hs) (r : Reps g Hs ds vs) (hz : (ds.drop m).length ≤ sizeLine) (q : Post g W e τ σ one (callD F (ownsA (ds.take m ++ [.tup (ds.drop m)])) ρ) Q) : spStar g F m vs H Q (WE W σ) := by
  have hl := r.length
  refine ⟨by rw [List.length_drop] at hz ⊢; omega, fun p hp => ?_⟩
  have hps := o.freeS hp
  have o' := o.growS (u := .tup (vs.drop m)) hp
  have s1 : Same Hs (upd Hs p (.tup (vs.drop m))) := Same_upd hps
  have rs : ∀ (ds : List D) (vs : List V) (k : Nat), Reps g Hs ds vs → Reps g Hs (ds.take k) (vs.take k) ∧ Reps g Hs (ds.drop k) (vs.drop k) := by
    intro ds vs k
    induction k generalizing ds vs with
    | zero => intro h; exact ⟨by simp only [List.take_zero, Reps], by simpa using h⟩
    | succ k ih =>
      intro h
      cases ds with
      | nil =>
        simp only [Reps] at h
        subst h
        exact ⟨by simp only [List.take_nil, Reps], by simp only [List.drop_nil, Reps]⟩
      | cons d ds =>
        simp only [Reps] at h
        obtain ⟨v, vs', rfl, q, h⟩ := h
        obtain ⟨a, b⟩ := ih ds vs' h
        exact ⟨by simp only [List.take_succ_cons, Reps]; exact ⟨v, _, rfl, q, a⟩, by simpa using b⟩
  obtain ⟨ra, rb⟩ := rs ds vs m r
  have app : ∀ (ds es : List D) (vs ws : List V) (S : Hp), Reps g S ds vs → Reps g S es ws → Reps g S (ds ++ es) (vs ++ ws) := by
    intro ds
    induction ds with
    | nil => intro es vs ws S h1 h2; simp only [Reps] at h1; subst h1; exact h2
    | cons d ds ih =>
      intro es vs ws S h1 h2
      simp only [Reps] at h1
      obtain ⟨v, vs', rfl, q, h1⟩ := h1
      simp only [List.cons_append, Reps]
      exact ⟨v, _, rfl, q, ih es vs' ws S h1 h2⟩
  refine SpD.frozen o' (app _ _ _ _ _ (Reps.mono s1 ra) ?_) q
  simp only [Reps, Rep]
  exact ⟨_, [], rfl, ⟨p, _, rfl, SqT.of upd_same, Reps.mono s1 rb⟩, rfl⟩
theorem ARel.len : ∀ {avs : List AV} {vs vo : List V} {to : List T}, ARel g Hs H ρ σ avs vs vo to → vs.length = avs.length
  | [], _, _, _, ar => by obtain ⟨rfl, _⟩ := ar; rfl
  | .own t :: r, _, _, _, ar => by
    obtain ⟨v, vs', vo', to', rfl, _, _, ar⟩ := ar
    rw [List.length_cons, List.length_cons, ar.len]
  | .bor t :: r, _, _, _, ar => by
    obtain ⟨v, vs', rfl, _, ar⟩ := ar
    rw [List.length_cons, List.length_cons, ar.len]
  | .io i :: r, _, _, _, ar => by
    obtain ⟨v, vs', rfl, _, ar⟩ := ar
    rw [List.length_cons, List.length_cons, ar.len]
/-- f() -/
theorem cj_callF0 {f : Str} {F : List T → Option Out} {p pos : Pos} (kc : Cp X g c) (tk : Takes X W) (hg : glB c f = true) (hdb : (f == ("__debug__" : Str)) = false) (hf : FnAtF X f 0 [] (SpD g F)) : CJ X g W (fun ρ => callD F [] ρ) (.Call (.Name f p) [] [] pos) := by
  obtain ⟨fa, j, hm, hk, F1, hr⟩ := hf.ex
  exact ⟨_, pe_callF0 F1 hr kc tk (kc.gl hg) hm hk hdb, fun e ρ τ σ H Hs Q o q => SpD.use o.nilG (vs := []) (avs := []) ⟨rfl, rfl, rfl⟩ q⟩
/-- the arguments, then the call: what follows from how the arguments stand -/
theorem cj_args {ex : Expr} {es : List Expr} {fr : Sl → Option (Rs (List AV))} {n : Nat} {k : List AV → Sl → Option (Rs T)} {sp : Sp} (hp : ∀ ta, PA X es ta → PE X ex (tcF n sp W ta)) (ha : VJ X g W fr es)
    (hk : ∀ e ρ τ σ H Hs avs vs (Q : VK), ArgsOk g e τ σ avs ρ vs H Hs → vs.length = avs.length → Post g W e τ σ one (k avs ρ) Q → sp vs H Q (WE W σ)) :
    CJ X g W (fun ρ => bindR (fr ρ) fun avs ρ1 => if avs.length = n then k avs ρ1 else none) ex := by
  obtain ⟨ta, pa, ra⟩ := ha
  refine ⟨_, hp ta pa, fun e ρ τ σ H Hs Q o q => ?_⟩
  refine ra e ρ τ σ H Hs _ o ?_
  dsimp only at q
  cases h : fr ρ with
  | none => rw [h] at q; exact q
  | some r =>
    rw [h] at q
    cases r with
    | ex c t ρ' => exact q
    | ok avs ρ1 =>
      intro vs H1 Hs1 a
      simp only [bindR] at q
      split at q
      · rename_i hn
        have hl : vs.length = avs.length := by
          obtain ⟨vo, to, _, ar⟩ := a
          exact ar.len
        exact ⟨by rw [hl, hn], hk e ρ1 τ σ H1 Hs1 avs vs Q a hl q⟩
      · exact q.elim
/-- f(e, ..) of a def of the text, by place -/
theorem cj_callF {f : Str} {F : List T → Option Out} {e1 : Expr} {es : List Expr} {n : Nat} {fr : Sl → Option (Rs (List AV))} {p pos : Pos} (kc : Cp X g c) (tk : Takes X W) (hg : glB c f = true) (hdb : (f == ("__debug__" : Str)) = false) (hf : FnAtF X f n [] (SpD g F)) (hs : ∀ e ∈ e1 :: es, starB e = false) (ha : VJ X g W fr (e1 :: es)) :
    CJ X g W (fun ρ => bindR (fr ρ) fun avs ρ1 => if avs.length = n then callD F avs ρ1 else none) (.Call (.Name f p) (e1 :: es) [] pos) := by
  obtain ⟨fa, j, hm, hk, F1, hr⟩ := hf.ex
  exact cj_args (fun ta pa => pe_callF F1 hr kc tk (kc.gl hg) hm hk hdb hs pa) ha fun e ρ τ σ H Hs avs vs Q ⟨vo, to, o, ar⟩ _ q => SpD.use o ar q
/-- f(e, ..), f with a star parameter -/
theorem cj_callS {f : Str} {F : List T → Option Out} {e1 : Expr} {es : List Expr} {n m : Nat} {fr : Sl → Option (Rs (List AV))} {p pos : Pos} (kc : Cp X g c) (tk : Takes X W) (hg : glB c f = true) (hdb : (f == ("__debug__" : Str)) = false) (hf : FnAtF X f n [] (spStar g F m)) (hs : ∀ e ∈ e1 :: es, starB e = false) (ha : VJ X g W fr (e1 :: es)) :
    CJ X g W (fun ρ => bindR (fr ρ) fun avs ρ1 => if avs.length = n then callSt F m avs ρ1 else none) (.Call (.Name f p) (e1 :: es) [] pos) := by
  obtain ⟨fa, j, hm, hk, F1, hr⟩ := hf.ex
  refine cj_args (fun ta pa => pe_callF F1 hr kc tk (kc.gl hg) hm hk hdb hs pa) ha fun e ρ τ σ H Hs avs vs Q a _ q => ?_
  unfold callSt at q
  split at q
  · rename_i ds hds
    obtain ⟨r, o⟩ := a.allFz hds
    split at q
    · rename_i hz
      exact spStar_use o r hz q
    · exact q.elim
  · exact q.elim
/-- f(k = v, ..) -/
theorem cj_callK0 {f : Str} {F : List T → Option Out} {kws : List Keyword} {ks : List Str} {idx : List Nat} {fr : Sl → Option (List T)} {p pos : Pos} (kc : Cp X g c) (tk : Takes X W) (hg : glB c f = true) (hdb : (f == ("__debug__" : Str)) = false) (hf : FnAtF X f 0 ks (fun vs => SpD g F (pickL idx vs))) (hks : kws.map (fun q => q.arg) = ks.map some) (hkw : KqJ X g fr kws) :
    CJ X g W (fun ρ => match (fr ρ).bind allFz with | some ds => if ds.length = ks.length then callD F (ownsA (pickL idx ds)) ρ else none | none => none) (.Call (.Name f p) [] kws pos) := by
  obtain ⟨fa, j, hm, hk, F1, hr⟩ := hf.ex
  obtain ⟨ta, pa, ra⟩ := hkw
  refine ⟨_, pe_callFK0 F1 hr kc tk (kc.gl hg) hm hk hdb hks pa, fun e ρ τ σ H Hs Q o q => ?_⟩
  dsimp only at q
  split at q
  · rename_i ds hds
    simp only [Option.bind_eq_some_iff] at hds
    obtain ⟨ts, h1, h2⟩ := hds
    split at q
    · rename_i hn
      obtain ⟨O, vw⟩ := o.view
      refine ra ρ σ H Hs O ts vw h1 _ fun vs ⟨fs, rs⟩ => ?_
      obtain ⟨r, _⟩ := allFz_rep h2 rs
      exact ⟨by rw [r.length, hn], SpD.frozen o (r.pick idx) q⟩
    · exact q.elim
  · exact q.elim
/-- f(e, .., k = v, ..) -/
theorem cj_callK {f : Str} {F : List T → Option Out} {e1 : Expr} {es : List Expr} {kws : List Keyword} {n : Nat} {ks : List Str} {idx : List Nat} {fq : Sl → Option (List AV)} {fr : Sl → Option (List T)} {p pos : Pos} (kc : Cp X g c) (tk : Takes X W) (hg : glB c f = true) (hdb : (f == ("__debug__" : Str)) = false) (hf : FnAtF X f n ks (fun vs => SpD g F (pickL idx vs))) (hs : ∀ e ∈ e1 :: es, starB e = false) (hks : kws.map (fun q => q.arg) = ks.map some) (ha : VqJ X g fq (e1 :: es)) (hkw : KqJ X g fr kws) :
    CJ X g W (fun ρ => match (fq ρ).bind allFzA, (fr ρ).bind allFz with | some es, some ds => if es.length = n ∧ ds.length = ks.length then callD F (ownsA (pickL idx (es ++ ds))) ρ else none | _, _ => none) (.Call (.Name f p) (e1 :: es) kws pos) := by
  obtain ⟨fa, j, hm, hk, F1, hr⟩ := hf.ex
  obtain ⟨tb, pb, rb⟩ := ha
  obtain ⟨ta, pa, ra⟩ := hkw
  refine ⟨_, pe_callFK F1 hr kc tk (kc.gl hg) hm hk hdb hs hks pb pa, fun e ρ τ σ H Hs Q o q => ?_⟩
  dsimp only at q
  split at q
  · rename_i es ds hes hds
    simp only [Option.bind_eq_some_iff] at hds hes
    obtain ⟨ts, h1, h2⟩ := hds
    obtain ⟨avs, h3, h4⟩ := hes
    split at q
    · rename_i hn
      refine rb e ρ τ σ H Hs avs _ o h3 fun ws ar => ?_
      have r0 : Reps g Hs es ws := allFzA_rep ar ⟨[], by simp only [RepTs]; exact ⟨trivial, trivial⟩⟩ h4
      obtain ⟨O, vw⟩ := o.view
      refine ⟨by rw [r0.length]; exact hn.1, ra ρ σ H Hs O ts vw h1 _ fun vs ⟨fs, rs⟩ => ?_⟩
      obtain ⟨r, _⟩ := allFz_rep h2 rs
      refine ⟨by rw [r.length]; exact hn.2, SpD.frozen o (Reps.pick ?_ idx) q⟩
      have app : ∀ (ds es : List D) (vs ws : List V), Reps g Hs ds vs → Reps g Hs es ws → Reps g Hs (ds ++ es) (vs ++ ws) := by
        intro ds
        induction ds with
        | nil => intro es vs ws h1 h2; simp only [Reps] at h1; subst h1; exact h2
        | cons d ds ih =>
          intro es vs ws h1 h2
          simp only [Reps] at h1
          obtain ⟨v, vs', rfl, q, h1⟩ := h1
          simp only [List.cons_append, Reps]
          exact ⟨v, _, rfl, q, ih es vs' ws h1 h2⟩
      exact app _ _ _ _ r0 r
    · exact q.elim
  · exact q.elim
end
end DL
namespace DL
open PySem PySem.Spec PyProof.Rows L2

/-! ### a def by its body -/
/-- what a body makes of its slots, as what the def makes of its arguments; keep: the parameters that stay -/
def finS (keep : List Nat) (n : Nat) (ρ : Sl) : List (Option T) := (List.range n).map fun j => if keep.contains j = true then (ρ[j]?).bind id else none
def denB (fb : Sl → Option Fl) (n m : Nat) (keep : List Nat) (ts : List T) : Option Out :=
  if ts.length = n then
    match fb (ts.map some ++ List.replicate (m - n) none) with
    | some (.nx ρ) => some (.ret (.fz .non) (finS keep n ρ))
    | some (.ret t ρ) => some (.ret t (finS keep n ρ))
    | some (.ex c t ρ) => some (.exc c t (finS keep n ρ))
    | _ => none
  else none
section
variable {g : Gx} {H H' Hs Hs' S : Hp} {e : Fr0} {ρ : Sl} {τ : Tm} {σ : L2.St}
theorem RepE.init : ∀ {ts : List T} {vs : List V} {fp : List Addr} (n : Nat), RepTs g S H ts vs fp → RepE g S H (ts.map some ++ List.replicate n none) (vs.map some ++ List.replicate n none) fp
  | [], vs, fp, n, r => by
    simp only [RepTs] at r
    obtain ⟨rfl, rfl⟩ := r
    simp only [List.map_nil, List.nil_append]
    induction n with
    | zero => exact ⟨rfl, rfl⟩
    | succ n ih => exact ⟨none, _, rfl, ih⟩
  | t :: ts, vs, fp, n, r => by
    simp only [RepTs] at r
    obtain ⟨v, vs', f, f', rfl, rfl, q, r⟩ := r
    exact ⟨v, _, f, f', rfl, rfl, q, RepE.init n r⟩
/-- the parameters that stay, as a def's entry tells of them -/
def pinsOf (keep : List Nat) (vs : List V) : List (Nat × V) := keep.filterMap fun j => (vs[j]?).map fun v => (j, v)
theorem Ok.start {ts : List T} {vs : List V} {fp : List Addr} {N : List Str} (keep : List Nat) (s : Same S H) (r : RepTs g S H ts vs fp) (c : ∀ a, fp.count a ≤ 1) (n : ∀ a ∈ fp, S a = none ∧ H a ≠ none) :
    Ok g ⟨H, S, fp, pinsOf keep vs⟩ (ts.map some ++ List.replicate (N.length - ts.length) none) [] (L2.start N vs) H S := by
  have hl := r.length
  refine ⟨s, Same.refl _, fun a h => .inl h, fun _ _ _ => rfl, fun _ h => h, fun p hp => ?_, fp, [], ?_, rfl, fun a => by simpa using c a, fun a ha => ?_⟩
  · unfold pinsOf at hp
    rw [List.mem_filterMap] at hp
    obtain ⟨j, hj, hp⟩ := hp
    simp only [Option.map_eq_some_iff] at hp
    obtain ⟨v, hv, rfl⟩ := hp
    unfold L2.start
    rw [List.getElem?_append_left (by rw [List.length_map]; exact (List.getElem?_eq_some_iff.mp hv).1), List.getElem?_map, hv]
    rfl
  · unfold L2.start
    rw [hl]
    exact RepE.init _ r
  · rcases ha with ha | ha
    · exact ⟨(n a ha).1, (n a ha).2, .inr ha⟩
    · cases ha
/-- the slots at the end, as the arguments' fates -/
theorem RepE.fin (keep : List Nat) : ∀ (n i : Nat) {ρ : Sl} {σ : L2.St} {fp : List Addr} (vs : List V), RepE g Hs H ρ σ fp → vs.length = n → (∀ j v, i + j ∈ keep → vs[j]? = some v → σ[j]? = some (some v)) →
    ∃ fp', RepE g Hs H ((List.range n).map fun j => if keep.contains (i + j) = true then (ρ[j]?).bind id else none) (vs.map some) fp' ∧ ∀ a, fp'.count a ≤ fp.count a
  | 0, i, ρ, σ, fp, vs, r, hl, _ => by
    have : vs = [] := by simpa using hl
    subst this
    exact ⟨[], ⟨rfl, rfl⟩, fun a => Nat.zero_le _⟩
  | n + 1, i, ρ, σ, fp, [], r, hl, _ => by simp at hl
  | n + 1, i, ρ, σ, fp, v :: vs, r, hl, k => by
    have step : ∀ (ρ' : Sl) (σ' : L2.St) (f' : List Addr), RepE g Hs H ρ' σ' f' → (∀ j, ρ[j + 1]? = ρ'[j]?) → (∀ j, σ[j + 1]? = σ'[j]?) → ∃ fp', RepE g Hs H ((List.range n).map fun j => if keep.contains (i + 1 + j) = true then (ρ[j + 1]?).bind id else none) (vs.map some) fp' ∧ ∀ a, fp'.count a ≤ f'.count a := by
      intro ρ' σ' f' r' h1 h2
      obtain ⟨fp', q, c⟩ := RepE.fin keep n (i + 1) vs r' (by simpa using hl) fun j w hj hw => by
        rw [← h2 j]
        exact k (j + 1) w (by rw [show i + (j + 1) = i + 1 + j by omega]; exact hj) (by simpa using hw)
      refine ⟨fp', ?_, c⟩
      have e1 : ((List.range n).map fun j => if keep.contains (i + 1 + j) = true then (ρ[j + 1]?).bind id else none) = ((List.range n).map fun j => if keep.contains (i + 1 + j) = true then (ρ'[j]?).bind id else none) := List.map_congr_left fun j _ => by rw [h1 j]
      rw [e1]
      exact q
    have e2 : ((List.range (n + 1)).map fun j => if keep.contains (i + j) = true then (ρ[j]?).bind id else none) = (if keep.contains i = true then (ρ[0]?).bind id else none) :: ((List.range n).map fun j => if keep.contains (i + 1 + j) = true then (ρ[j + 1]?).bind id else none) := by
      rw [List.range_succ_eq_map, List.map_cons, List.map_map]
      rw [List.map_congr_left (g := fun j => if keep.contains (i + 1 + j) = true then (ρ[j + 1]?).bind id else none) fun j _ => by
        simp only [Function.comp]
        rw [show i + (j + 1) = i + 1 + j by omega]]
      simp
    rw [e2]
    match ρ, σ, r with
    | [], σ, r =>
      obtain ⟨rfl, rfl⟩ := r
      obtain ⟨fp', q, c⟩ := step [] [] [] ⟨rfl, rfl⟩ (fun j => by simp) (fun j => by simp)
      refine ⟨fp', ?_, c⟩
      have : (if keep.contains i = true then ((([] : Sl)[0]?).bind id) else none) = (none : Option T) := by split <;> rfl
      rw [this]
      exact ⟨some v, _, rfl, q⟩
    | none :: ρ', _, ⟨o, σ', rfl, r⟩ =>
      obtain ⟨fp', q, c⟩ := step ρ' σ' fp r (fun j => by simp) (fun j => by simp)
      refine ⟨fp', ?_, c⟩
      have : (if keep.contains i = true then (((none :: ρ' : Sl)[0]?).bind id) else none) = (none : Option T) := by split <;> rfl
      rw [this]
      exact ⟨some v, _, rfl, q⟩
    | some t :: ρ', _, ⟨w, σ', f, f', rfl, ef, z, r'⟩ =>
      subst ef
      obtain ⟨fp', q, c⟩ := step ρ' σ' f' r' (fun j => by simp) (fun j => by simp)
      by_cases hk : keep.contains i = true
      · have hw := k 0 v (by simpa using hk) (by simp)
        simp at hw
        subst hw
        refine ⟨f ++ fp', ?_, fun a => by rw [List.count_append, List.count_append]; have := c a; omega⟩
        rw [if_pos hk]
        exact ⟨w, _, f, fp', rfl, rfl, z, q⟩
      · refine ⟨fp', ?_, fun a => by rw [List.count_append]; have := c a; omega⟩
        rw [if_neg hk]
        exact ⟨some v, _, rfl, q⟩
theorem Ok.finish {keep : List Nat} {vs : List V} {n : Nat} (o : Ok g ⟨H, S, F, pinsOf keep vs⟩ ρ τ σ H' Hs') (hn : vs.length = n) : Ok g ⟨H, S, F, []⟩ (finS keep n ρ) τ (vs.map some) H' Hs' := by
  obtain ⟨fs, ft, r1, r2, c, nn⟩ := o.own
  obtain ⟨fs', q, c'⟩ := RepE.fin keep n 0 vs r1 hn fun j v hj hv => by
    have hj' : j ∈ keep := by simpa using hj
    exact o.fix (j, v) (by unfold pinsOf; rw [List.mem_filterMap]; exact ⟨j, hj', by rw [hv]; rfl⟩)
  simp only [Nat.zero_add] at q
  refine ⟨o.sub, o.sub0, o.new, o.frame, o.there, (fun p hp => nomatch hp), fs', ft, q, r2, fun a => ?_, fun a ha => nn a ?_⟩
  · have := c a; have := c' a; omega
  · rcases ha with ha | ha
    · have := List.count_pos_iff.mpr ha
      have := c' a
      exact .inl (List.count_pos_iff.mp (by omega))
    · exact .inr ha
end
/-! a body, and the def that has it -/
section
variable {P : Program} {w : World} {K : PySem.W.Frag} {mg : Str → Option Value} {base : Heap} {g : Gx}
/-- what of the module a body needs -/
structure Md (g : Gx) (K : PySem.W.Frag) (mg : Str → Option Value) (con : List (Str × D)) : Prop where
  hk : g.K = K
  bn : ∀ x ∈ builtinNames, mg x = none
  con : ∀ p ∈ con, p.2.atom = true ∧ ∃ u, mg p.1 = some u ∧ RelV p.2.at u
/-- the body's statements, wherever they run -/
def BodyOk (P : Program) (w : World) (K : PySem.W.Frag) (mg : Str → Option Value) (base : Heap) (k : Nat) (g : Gx) (c : Cxt) (fb : Sl → Option Fl) (body : List Stmt) : Prop :=
  ∀ (X : Cx) (W : WX), X.prog = P → X.w = w → X.K = K → X.mg = mg → X.base = base → Cp X g c → X.fn = (fun _ => true) → Takes X W → PassesOwn (model X.prog X.w) X.A X.env X.xe → Room k X.A → SsJ X g c W fb body
theorem body_read {c : Cxt} {fb : Sl → Option Fl} {x qual : Str} {st : Stmt} {f : Addr} {cdv : Value} {N ps : List Str} {k : Nat} {keep : List Nat} {con : List (Str × D)} (M : Md g K mg con) (S : FnScope N ps (defScope st)) (hN : c.N = N) (hl : c.look = (defScope st).names) (hcon : c.con = con) (hpr : c.prot = keep) (hblk : c.blk = none)
    (B : BodyOk P w K mg base k g c fb (defBody st)) (A : Around) (outer : List Env) (s2 : Shared) (H2 : Hp) (vs : List V) (Q : VK) (E : XK) (hg : A.guards = some []) (hr : Room k (A.deeper (envOfC qual (defScope st) s2.heap.objs.size f cdv))) (hps : vs.length = ps.length)
    (hsp : SpD g (denB fb ps.length N.length keep) vs H2 Q E) : ∃ t, PSs (cxOf (L2.CX P w) P w K mg base N qual (defScope st) f cdv A outer s2 H2 E) (defBody st) t ∧ t { nx := fun _ H' => Q .non H', rt := Q } (L2.start N vs) H2 := by
  have hC : Cp (cxOf (L2.CX P w) P w K mg base N qual (defScope st) f cdv A outer s2 H2 E) g c := by
    refine ⟨hN.symm, S.nd, fun y => ?_, rfl, M.hk, ?_, M.bn, S.kind, hg, fun y _ => .inl rfl, by rw [hcon]; exact M.con⟩
    · show (defScope st).names.lookup y = _
      rw [hl]
    · have := hr.un
      show (A.deeper _).units + 100 < cLine
      omega
  have tk : Takes (cxOf (L2.CX P w) P w K mg base N qual (defScope st) f cdv A outer s2 H2 E) (fun cls d _ H => E cls d H) := takes_of rfl rfl rfl rfl
  obtain ⟨t, pt, rt⟩ := B _ _ rfl rfl rfl rfl rfl hC rfl tk (passes_of rfl) hr
  refine ⟨t, pt, ?_⟩
  obtain ⟨ts, S0, fp, out, sH, rts, cf, nf, hF, post⟩ := hsp
  have hts : vs.length = ts.length := rts.length
  unfold denB at hF
  split at hF <;> (try (cases hF; done))
  rename_i hn
  have o0 := Ok.start (N := N) keep sH rts cf nf
  refine rt _ _ _ _ _ _ _ (fun p hp => ?_) o0 ?_
  · rw [hpr]
    unfold pinsOf at hp
    rw [List.mem_filterMap] at hp
    obtain ⟨j, hj, hp⟩ := hp
    simp only [Option.map_eq_some_iff] at hp
    obtain ⟨_, _, rfl⟩ := hp
    exact hj
  · rw [hn]
    split at hF
    · rename_i ρ' he
      cases hF
      rw [he]
      exact fun σ' H' Hs' o => post .non H' Hs' ((o.push (d := .non) (v := .non) (by simp only [Rep])).finish hps)
    · rename_i t' ρ' he
      cases hF
      rw [he]
      exact fun v σ' H' Hs' o => post v H' Hs' (o.finish hps)
    · rename_i cl t' ρ' he
      cases hF
      rw [he]
      exact fun v dx σ' H' Hs' o hd => post v dx H' Hs' (o.finish hps) hd
    · cases hF
/-- the def, called by place or by name, every parameter given -/
theorem fnF_kw {c : Cxt} {fb : Sl → Option Fl} {x qual : Str} {st : Stmt} {f : Addr} {fd : FuncData} {N ps : List Str} {k n : Nat} {ks : List Str} {idx : List Nat} {keep : List Nat} {con : List (Str × D)} (F : Fun K x qual st f fd) (M : Md g K mg con) (S : FnScope N ps (defScope st)) (hN : c.N = N) (hl : c.look = (defScope st).names) (hcon : c.con = con) (hpr : c.prot = keep) (hblk : c.blk = none)
    (B : BodyOk P w K mg base k g c fb (defBody st)) (hidx : idx.length = ps.length) (hix : ∀ j ∈ idx, j < n + ks.length)
    (hb : ∀ (kV doc pm : Value) (an : Option Addr) (cdv ct : Value) (us ws : List Value), us.length = n → ws.length = ks.length → bindArgs (PySem.W.fnOf x qual (defArgs st) (defBody st) (defScope st) .none kV doc pm an cdv ct) ⟨us, ks.zip ws⟩ = pure (ps.zip (pickL idx (us ++ ws)))) :
    FnF P w K mg base (k + 1) f n ks (fun vs => SpD g (denB fb ps.length N.length keep) (pickL idx vs)) := by
  obtain ⟨oc, od, kV, doc, pm, an, cdv, ct, osl, rfl, lk, hcd⟩ := F.ex
  intro A outer s H us ws vs zs Q E hr hg e0 r rz hn hw hsp
  have hpk : ∀ {α : Type} (xs : List α), xs.length = n + ks.length → (pickL idx xs).length = ps.length := by
    intro α xs hx
    rw [← hidx]
    unfold pickL
    clear hb hidx hsp
    induction idx with
    | nil => rfl
    | cons j idx ih =>
      have hj : j < xs.length := by rw [hx]; exact hix j (by simp)
      rw [List.filterMap_cons, List.getElem?_eq_getElem hj, List.length_cons, List.length_cons, ih fun j hj => hix j (by simp [hj])]
  have rr : Vals (vs ++ zs) (us ++ ws) := r.append rz
  have rp : ∀ idx : List Nat, Vals (pickL idx (vs ++ zs)) (pickL idx (us ++ ws)) := by
    intro idx
    unfold pickL
    induction idx with
    | nil => exact .nil
    | cons j idx ih =>
      rw [List.filterMap_cons, List.filterMap_cons]
      cases hj : (vs ++ zs)[j]? with
      | none => rw [rr.none_of hj]; exact ih
      | some v =>
        obtain ⟨u, hu, ru⟩ := rr.get hj
        rw [hu]
        exact .cons ru ih
  have hvl : (pickL idx (vs ++ zs)).length = ps.length := hpk _ (by rw [rr.length, List.length_append, hn, hw])
  refine StX.run_bnd (k := k) (G := fun xs H2 => xs = pickL idx (vs ++ zs) ∧ H2 = H) lk hcd S hr e0 (fun A' Ex Q' h => ?_) fun s2 H2 xs ⟨ex, eh⟩ hr' => ?_
  · rw [hb kV doc pm an cdv ct us ws hn hw]
    exact wpAny_pure (h s H _ _ e0 Un.refl rfl (fun _ _ z => z) (rp idx) hvl ⟨rfl, rfl⟩)
  · subst ex eh
    exact body_read (x := x) M S hN hl hcon hpr hblk B A outer s2 _ _ Q E hg hr' hvl hsp
theorem pick_range {α : Type} (xs : List α) : pickL (List.range xs.length) xs = xs := by
  have key : ∀ (m : Nat), m ≤ xs.length → (List.range m).filterMap (fun j => xs[j]?) = xs.take m := by
    intro m
    induction m with
    | zero => intro _; simp
    | succ m ih =>
      intro h
      rw [List.range_succ, List.filterMap_append, ih (by omega), List.take_add_one]
      simp only [List.filterMap_cons, List.filterMap_nil]
      cases xs[m]? <;> rfl
  unfold pickL
  rw [key xs.length (Nat.le_refl _), List.take_length]
/-- called by place -/
theorem fnF_pl {c : Cxt} {fb : Sl → Option Fl} {x qual : Str} {st : Stmt} {f : Addr} {fd : FuncData} {N ps : List Str} {k : Nat} {keep : List Nat} {con : List (Str × D)} (F : Fun K x qual st f fd) (M : Md g K mg con) (S : FnScope N ps (defScope st)) (hN : c.N = N) (hl : c.look = (defScope st).names) (hcon : c.con = con) (hpr : c.prot = keep) (hblk : c.blk = none)
    (B : BodyOk P w K mg base k g c fb (defBody st))
    (hb : ∀ (kV doc pm : Value) (an : Option Addr) (cdv ct : Value) (us : List Value), us.length = ps.length → bindArgs (PySem.W.fnOf x qual (defArgs st) (defBody st) (defScope st) .none kV doc pm an cdv ct) ⟨us, []⟩ = pure (ps.zip us)) :
    FnF P w K mg base (k + 1) f ps.length [] (SpD g (denB fb ps.length N.length keep)) := by
  have h := fnF_kw (n := ps.length) (ks := []) (idx := List.range ps.length) F M S hN hl hcon hpr hblk B (by simp) (fun j hj => by simpa using hj) fun kV doc pm an cdv ct us ws hn hw => by
    have e : ws = [] := by simpa using hw
    subst e
    rw [List.append_nil, ← hn, pick_range]
    exact hb kV doc pm an cdv ct us hn
  intro A outer s H us ws vs zs Q E hr hg e0 r rz hn hw hsp
  have e : ws = [] := by simpa using hw
  subst e
  have ez : zs = [] := by
    cases rz
    rfl
  subst ez
  refine h A outer s H us [] vs [] Q E hr hg e0 r .nil hn rfl ?_
  rw [List.append_nil] at hsp ⊢
  rw [show ps.length = vs.length by rw [r.length, hn], pick_range, ← show ps.length = vs.length by rw [r.length, hn]]
  exact hsp
/-- a def with a star parameter -/
theorem fnF_st {c : Cxt} {fb : Sl → Option Fl} {x qual : Str} {st : Stmt} {f : Addr} {fd : FuncData} {N qs : List Str} {pv : Str} {k n : Nat} {keep : List Nat} {con : List (Str × D)} (F : Fun K x qual st f fd) (M : Md g K mg con) (S : FnScope N (qs ++ [pv]) (defScope st)) (hN : c.N = N) (hl : c.look = (defScope st).names) (hcon : c.con = con) (hpr : c.prot = keep) (hblk : c.blk = none)
    (B : BodyOk P w K mg base k g c fb (defBody st)) (hn : qs.length ≤ n)
    (hb : ∀ (kV doc pm : Value) (an : Option Addr) (cdv ct : Value) (us : List Value), us.length = n → bindArgs (PySem.W.fnOf x qual (defArgs st) (defBody st) (defScope st) .none kV doc pm an cdv ct) ⟨us, []⟩ = (newTuple (us.drop qs.length) >>= fun t => pure (qs.zip (us.take qs.length) ++ [(pv, t)]))) :
    FnF P w K mg base (k + 1) f n [] (spStar g (denB fb (qs.length + 1) N.length keep) qs.length) := by
  obtain ⟨oc, od, kV, doc, pm, an, cdv, ct, osl, rfl, lk, hcd⟩ := F.ex
  intro A outer s H us ws vs zs Q E hr hg e0 r rz hun hw hsp
  have e : ws = [] := by simpa using hw
  subst e
  have ez : zs = [] := by
    cases rz
    rfl
  subst ez
  rw [List.append_nil] at hsp
  obtain ⟨hz, hsp⟩ := hsp
  have hvl : vs.length = n := by rw [r.length, hun]
  have fresh : H s.heap.objs.size = Option.none := e0.hok.fresh (Nat.le_refl _)
  refine StX.run_bnd (k := k) (G := fun xs H2 => ∃ p, H p = Option.none ∧ xs = vs.take qs.length ++ [V.ref p] ∧ H2 = upd H p (.tup (vs.drop qs.length))) lk hcd S hr e0 (fun A' Ex Q' h => ?_) fun s2 H2 xs ⟨p, hp, ex, eh⟩ hr' => ?_
  · have hb1 := hb kV doc pm an cdv ct us hun
    show wpAny _ A' (bindArgs _ ⟨us, []⟩) Q' Ex s
    rw [hb1]
    have rd := r.drop qs.length
    refine wpAny_bind (wpAny_newTuple (wpAny_pure ?_) (by rw [← rd.length]; exact hz))
    have nw : ObjOk P w (upd H s.heap.objs.size (.tup (vs.drop qs.length))) (s.heap.push ({ cls := .type "tuple", data := .seq (us.drop qs.length).toArray } : Obj)) s.heap.objs.size (.tup (vs.drop qs.length)) := ⟨hz, us.drop qs.length, rd, ⟨_, Heap.get?_push_size _ rfl, rfl, _, rfl⟩⟩
    have un := StX.un_laid (fs := frs outer) (s := s) (o := ({ cls := .type "tuple", data := .seq (us.drop qs.length).toArray } : Obj)) (u := .tup (vs.drop qs.length)) fresh
    have z := h _ _ (vs.take qs.length ++ [V.ref s.heap.objs.size]) (us.take qs.length ++ [Value.ref s.heap.objs.size]) (StX.env0_laid e0 nw) un rfl (fun e s' => StX.cxUp outer s H _ _ E e s' un (fun b o q => Heap.get?_push_of_some _ q) rfl) ((r.take qs.length).append (.cons rfl .nil))
      (by rw [List.length_append, List.length_append, List.length_take]; simp; omega) ⟨_, fresh, rfl, rfl⟩
    rw [List.zip_append (by rw [List.length_take]; omega)] at z
    exact z
  · subst ex eh
    have := body_read (x := x) (ps := qs ++ [pv]) M S hN hl hcon hpr hblk B A outer s2 (upd H p (.tup (vs.drop qs.length))) (vs.take qs.length ++ [V.ref p]) Q E hg hr' (by rw [List.length_append, List.length_append, List.length_take]; simp; omega)
    rw [List.length_append] at this
    exact this (hsp p hp)
end
end DL
namespace DL
open PySem PySem.Spec PyProof.Rows L2

section
variable {X : Cx} {g : Gx} {c : Cxt} {W : WX} {e1 e2 ex : Expr} {es : List Expr} {fa fb : Sl → Option (Rs T)} {pos apos cpos : Pos} {e : Fr0} {ρ ρ' : Sl} {τ : Tm} {σ σ' : L2.St} {H H' Hs Hs' : Hp}
def isLst : T → Bool
  | .lst _ => true
  | _ => false
theorem isLst_ex {t : T} (h : isLst t = true) : ∃ ts, t = .lst ts := by
  cases t <;> first | exact ⟨_, rfl⟩ | (simp [isLst] at h)
/-- a list's method on a part of a slot, arguments pure and frozen -/
def evMmP (m : Mm) (a : Pt) (ts : List T) (ρ : Sl) : Option (Rs T) :=
  match rsvPt a ρ with
  | some (i, p, s) => match mmT m s ts with
    | some (s', u) => match ρ[i]? with
      | some (some t) => some (.ok u (ρ.set i (some (putT p t s'))))
      | _ => none
    | none => none
  | none => none
theorem mmT_lst {m : Mm} {s s' u : T} {us : List T} (h : mmT m s us = some (s', u)) : ∃ ts, s = .lst ts := by
  unfold mmT at h
  split at h <;> first | exact ⟨_, rfl⟩ | (cases h; done)
theorem cj_mmP0 (k : Cp X g c) {m : Mm} {a : Pt} {o : Expr} {nm : Str} (hn : nm = m.nm) (ha : mtPt c a o = true) (hl : (apos.endLine == cpos.line) = true) : CJ X g W (evMmP m a []) (.Call (.Attribute o nm apos) [] [] cpos) := by
  obtain ⟨id, r, hm, h1, h2, h3, rr⟩ := mmR (X := X) (g := g) m
  obtain ⟨ta, pa, ra⟩ := sndPt k a o ha
  subst hn
  refine ⟨_, pe_bm0 h1 h2 h3 hm pa (att_base ha) hl, fun e ρ τ σ H Hs Q o q => ?_⟩
  unfold evMmP at q
  split at q
  · rename_i i p s hr
    split at q
    · rename_i s' u hmm
      obtain ⟨O, vw⟩ := o.view
      refine ra ρ σ H Hs O i p s vw hr _ fun w pt => ⟨pt.listy k.hk (mmT_lst hmm), ?_⟩
      refine o.nilG.atPt pt hmm rr fun t v' H' ht o2 => ?_
      rw [ht] at q
      exact q v' H' Hs o2
    · exact q.elim
  · exact q.elim
theorem cj_mmP1 (k : Cp X g c) {m : Mm} {a : Pt} {b : P} {o x : Expr} {nm : Str} (hn : nm = m.nm) (ha : mtPt c a o = true) (hb : PJ X g (evP b) x) (hs : starB x = false) (hl : (apos.endLine == cpos.line) = true) : CJ X g W (fun ρ => match evP b ρ with | some (.fz d) => evMmP m a [.fz d] ρ | _ => none) (.Call (.Attribute o nm apos) [x] [] cpos) := by
  obtain ⟨id, r, hm, h1, h2, h3, rr⟩ := mmR (X := X) (g := g) m
  obtain ⟨ta, pa, ra⟩ := sndPt k a o ha
  obtain ⟨tb, pb, rb⟩ := hb
  subst hn
  refine ⟨_, pe_bm h1 h2 h3 hm pa (pa_one pb hs) (att_base ha) (few_ok (by simpa using hs) (by simp)) hl (star_cons hs) (by rfl), fun e ρ τ σ H Hs Q o q => ?_⟩
  dsimp only at q
  split at q
  · rename_i d hd
    unfold evMmP at q
    split at q
    · rename_i i p s hr
      split at q
      · rename_i s' u hmm
        obtain ⟨O, vw⟩ := o.view
        refine ra ρ σ H Hs O i p s vw hr _ fun w pt => ⟨pt.listy k.hk (mmT_lst hmm), ?_⟩
        refine rb ρ σ H Hs O _ vw hd _ fun v fp rv => ?_
        have rv := rv.r
        simp only [RepT] at rv
        refine (o.push rv.1).atPt pt hmm rr fun t v' H' ht o2 => ?_
        rw [ht] at q
        exact q v' H' Hs o2
      · exact q.elim
    · exact q.elim
  · exact q.elim
/-- a list's method on a slot's own list, any arguments -/
def evMm (m : Mm) (i : Nat) (us : List T) (ρ : Sl) : Option (Rs T) :=
  match ρ[i]? with
  | some (some t) => match mmT m t us with
    | some (t', u) => some (.ok u (ρ.set i (some t')))
    | none => none
  | _ => none
def lstAt (i : Nat) (ρ : Sl) : Bool := match ρ[i]? with
  | some (some (.lst _)) => true
  | _ => false
theorem lstAt_ty (hk : g.K = X.K) {i : Nat} (o : Ok g e ρ τ σ H Hs) (h : lstAt i ρ = true) : ∃ v, σ[i]? = some (some v) ∧ tyV X.K "list" v H := by
  unfold lstAt at h
  split at h <;> (try (cases h; done))
  rename_i ts ht
  obtain ⟨v, f, hv, r⟩ := o.get ht
  simp only [RepT] at r
  obtain ⟨a, vs, f', rfl, ha, _⟩ := r
  exact ⟨_, hv, .inl ⟨rfl, vs, SqL.of ha⟩⟩
theorem cj_mm (k : Cp X g c) {m : Mm} {i : Nat} {x nm : Str} {xp : Pos} {fr : Sl → Option (Rs (List T))} (hn : nm = m.nm) (hx : c.N[i]? = some x) (hv : visB c x = true) (hs : ∀ y ∈ e1 :: es, starB y = false) (hle : es.length < 25) (ha : AJ X g W fr (e1 :: es)) (hl : (apos.endLine == cpos.line) = true) :
    CJ X g W (fun ρ => if lstAt i ρ = true then bindR (fr ρ) fun us ρ1 => evMm m i us ρ1 else none) (.Call (.Attribute (.Name x xp) nm apos) (e1 :: es) [] cpos) := by
  obtain ⟨id, r, hm, h1, h2, h3, rr⟩ := mmR (X := X) (g := g) m
  obtain ⟨v1, v2, v3⟩ := k.vis hv
  obtain ⟨ta, pa, ra⟩ := ha
  subst hn
  refine ⟨_, pe_bm h1 h2 h3 hm (pe_var (i := i) (by rw [k.N]; exact hx) v1 v2 v3) pa (by rfl) (few_ok hs hle) hl (star_cons (hs _ (by simp))) (star_none fun y hy => hs y (by simp [hy])), fun e ρ τ σ H Hs Q o q => ?_⟩
  dsimp only at q
  split at q
  · rename_i hl
    obtain ⟨v, hv, ty⟩ := lstAt_ty k.hk o hl
    refine ⟨v, hv, ty, ra e ρ τ σ H Hs _ o (Post.bind q fun us ρ1 _ ws H1 Hs1 o1 q1 => ?_)⟩
    unfold evMm at q1
    split at q1
    · rename_i t ht
      split at q1
      · rename_i t' u hmm
        obtain ⟨v2, fp, hv2, rt⟩ := o1.get ht
        rw [hv] at hv2
        cases hv2
        refine o1.atPt (i := i) (p := []) (s := t) ⟨⟨v, t, fp, hv, ht, by simp [subT], rt, by simp [Chain]⟩, fp, rt⟩ hmm rr fun t2 v' H' ht2 o2 => ?_
        simp only [putT] at o2
        exact q1 v' H' Hs1 o2
      · exact q1.elim
    · exact q1.elim
  · exact q.elim

/-! x[..] = e -/
def putKey (ks : List Key) (ts : List T) (k : Key) (u : T) : List Key × List T :=
  match keyIx ks k with
  | some j => (ks, ts.set j u)
  | none => (ks ++ [k], ts ++ [u])
def setT : T → D → T → Option T
  | .lst ts, .int i, u => (ixN ts.length i).map fun j => .lst (ts.set j u)
  | .dic ks ts, d, u => match keyOf d with
    | some k => if ks.length < sizeLine ∧ ks.Nodup then some (.dic (putKey ks ts k u).1 (putKey ks ts k u).2) else none
    | none => none
  | _, _, _ => none
theorem putK_ix : ∀ {ks : List Key} {vs : List V} {k : Key} {v : V}, ks.Nodup → ks.length = vs.length → putK (ks.zip vs) k v = (match keyIx ks k with | some j => ks.zip (vs.set j v) | none => (ks ++ [k]).zip (vs ++ [v])) := by
  intro ks
  have any_eq : ∀ (ks : List Key) (vs : List V) (k : Key), ks.length = vs.length → ((ks.zip vs).any fun kv => decide (kv.1 = k)) = (keyIx ks k).isSome := by
    intro ks
    induction ks with
    | nil => intro vs k h; rfl
    | cons k0 ks ih =>
      intro vs k h
      cases vs with
      | nil => simp at h
      | cons v0 vs =>
        rw [List.zip_cons_cons, List.any_cons, ih vs k (by simpa using h)]
        simp only [keyIx]
        by_cases z : k0 = k
        · simp [z]
        · simp [z]
  have map_eq : ∀ (ks : List Key) (vs : List V) (k : Key) (v : V) (j : Nat), ks.Nodup → ks.length = vs.length → keyIx ks k = some j → (ks.zip vs).map (fun kv => if kv.1 = k then (kv.1, v) else kv) = ks.zip (vs.set j v) := by
    intro ks
    induction ks with
    | nil => intro vs k v j _ _ h; simp [keyIx] at h
    | cons k0 ks ih =>
      intro vs k v j nd hl h
      cases vs with
      | nil => simp at hl
      | cons v0 vs =>
        simp only [keyIx] at h
        have nd' := List.nodup_cons.mp nd
        split at h
        · rename_i z
          cases h
          subst z
          rw [List.zip_cons_cons, List.map_cons, List.set_cons_zero, List.zip_cons_cons]
          have : (ks.zip vs).map (fun kv => if kv.1 = k0 then (kv.1, v) else kv) = ks.zip vs := by
            conv => rhs; rw [← List.map_id (ks.zip vs)]
            refine List.map_congr_left fun p hp => ?_
            have : p.1 ≠ k0 := fun z => nd'.1 (z ▸ (List.of_mem_zip (a := p.1) (b := p.2) hp).1)
            simp [this]
          rw [this]
          simp
        · rename_i z
          simp only [Option.map_eq_some_iff] at h
          obtain ⟨j', h, rfl⟩ := h
          rw [List.zip_cons_cons, List.map_cons, List.set_cons_succ, List.zip_cons_cons, ih vs k v j' nd'.2 (by simpa using hl) h]
          simp [z]
  intro vs k v nd hl
  unfold putK
  rw [any_eq ks vs k hl]
  cases h : keyIx ks k with
  | none =>
    simp only [Option.isSome_none, Bool.false_eq_true, if_false]
    rw [List.zip_append hl]
    rfl
  | some j =>
    simp only [Option.isSome_some, if_true]
    exact map_eq ks vs k v j nd hl h
def rSet : V → V → V → Hp → (Hp → Prop) → Prop := fun o i v H Q => rSetL o i v H Q ∨ ∃ a H', o = .ref a ∧ DPut H a i v H' ∧ Q H'
theorem set_any (hu : X.A.units + 1 < cLine) : PSet X rSet := by
  intro pn s σ H o i v ov iv u Q I ro ri rv h
  rcases h with h | ⟨a, H', rfl, dp, q⟩
  · exact set_list pn s σ H o i v ov iv u Q I ro ri rv h
  · cases ro
    exact d_setItem hu I dp ri rv fun s' I' => ⟨H', I', q⟩
theorem sub_plain {a : Pt} {c : Cxt} {o i : Expr} {tp : Pos} {env : PySem.Env} (h : mtPt c a o = true) (hi : slB i = false) (v : Value) : assign (.Subscript o i tp) env v = (do
      let ov ← holding [v] (eval o env)
      let iv ← holding [v, ov] (eval i env)
      standAt tp
      holding [v, ov, iv] (setItem ov iv v)
      release [v, ov, iv] []) := by
  cases o <;> first
    | (cases i <;> first | rfl | (simp [slB] at hi; done))
    | (cases a <;> simp [mtPt] at h)
theorem asg_sub_none {o i v : Expr} {tp : Pos} {l : Nat} {env : PySem.Env} : swapsWithSole [.Subscript o i tp] v l env = pure false := by
  unfold swapsWithSole swapsWith
  cases v <;> rfl
theorem RepTs.upd1 {ts : List T} {vs : List V} {f fu : List Addr} {j : Nat} {u : T} {y : V} (r : RepTs g Hs H ts vs f) (ru : RepT g Hs H u y fu) (hj : j < ts.length) : ∃ f', RepTs g Hs H (ts.set j u) (vs.set j y) f' ∧ ∀ a, f'.count a ≤ fu.count a + f.count a := by
  induction ts generalizing vs f j with
  | nil => simp at hj
  | cons t ts ih =>
    simp only [RepTs] at r
    obtain ⟨v, vs', f1, f2, rfl, rfl, q, r⟩ := r
    cases j with
    | zero =>
      refine ⟨fu ++ f2, ?_, fun a => by simp only [List.count_append]; omega⟩
      simp only [List.set_cons_zero, RepTs]
      exact ⟨y, vs', fu, f2, rfl, rfl, ru, r⟩
    | succ j =>
      obtain ⟨f', q', c⟩ := ih r (by simpa using hj)
      refine ⟨f1 ++ f', ?_, fun a => by have := c a; simp only [List.count_append]; omega⟩
      simp only [List.set_cons_succ, RepTs]
      exact ⟨v, _, f1, f', rfl, rfl, q, q'⟩
theorem keyIx_lt : ∀ {ks : List Key} {k : Key} {j : Nat}, keyIx ks k = some j → j < ks.length
  | [], _, _, h => by simp [keyIx] at h
  | k0 :: ks, k, j, h => by
    simp only [keyIx] at h
    split at h
    · cases h; simp
    · simp only [Option.map_eq_some_iff] at h
      obtain ⟨j', h, rfl⟩ := h
      have := keyIx_lt h
      simpa using this
theorem Ok.setPt {i : Nat} {p : List Nat} {s s' t : T} {w y v : V} {d : D} (hk : g.K = X.K) (o : Ok g e ρ (([v], [t]) :: τ) σ H Hs) (pt : PtAt g Hs H ρ σ i p s w) (rd : Rep g H d y) (hs : setT s d t = some s') {Q : Hp → Prop}
    (q : ∀ t0 H', ρ[i]? = some (some t0) → Ok g e (ρ.set i (some (putT p t0 s'))) τ σ H' Hs → Q H') : rSet w y v H Q := by
  obtain ⟨v0, t0, fp, e1, e2, e3, e4, e5⟩ := pt.at_
  obtain ⟨v2, hv, o1⟩ := o.take e2
  rw [e1] at hv
  cases hv
  have hn : (∃ ts, s = .lst ts) ∨ ∃ ks ts, s = .dic ks ts := by
    unfold setT at hs
    split at hs <;> first | exact .inl ⟨_, rfl⟩ | exact .inr ⟨_, _, rfl⟩ | (cases hs; done)
  obtain ⟨D0, ho, ts, acc, ch, hD, nd, hl, hw, kk⟩ := o1.swap.wrP e3 hn
  have := e5.det ch
  subst this
  have fin : ∀ H', Ok g e (ρ.set i none) (([], []) :: ([v0], [putT p t0 s']) :: τ) σ H' Hs → Q H' := fun H' o2 => by
    refine q t0 H' e2 ?_
    have o3 := o2.drop.back (i := i) e1
    rw [List.set_set] at o3
    exact o3
  have nilR : ∀ H', RepTs g Hs H' [] [] [] := fun H' => by simp only [RepTs]; exact ⟨trivial, trivial⟩
  cases nd with
  | lst =>
    cases d <;> simp only [setT, reduceCtorEq] at hs
    rename_i i2
    simp only [Option.map_eq_some_iff] at hs
    obtain ⟨j, hj, rfl⟩ := hs
    simp only [Rep] at rd
    subst rd
    refine .inl ⟨D0, acc, i2, j, rfl, rfl, hD, by rw [hl]; exact hj, fin _ ?_⟩
    refine kk _ _ _ _ [] [] .lst fun H' fu f kp ru rl => ?_
    obtain ⟨f', r', c'⟩ := RepTs.upd1 rl (RepTs.one.mp ru) (ixN_seq hj).2.1
    exact ⟨f', [], r', nilR H', fun a => by simpa using c' a⟩
  | dic l =>
    rename_i ks
    simp only [setT] at hs
    split at hs <;> (try (cases hs; done))
    rename_i kx hkx
    split at hs <;> (try (cases hs; done))
    rename_i hz
    cases hs
    have ey := keyOf_kV hkx rd
    subst ey
    refine .inr ⟨D0, _, rfl, DPut.k hD (by rw [List.length_zip, l, Nat.min_self, ← l]; exact hz.1), ?_⟩
    rw [putK_ix hz.2 l]
    cases hj : keyIx ks kx with
    | none =>
      have o2 := kk (.dic (ks ++ [kx]) (ts ++ [t])) (.dK ((ks ++ [kx]).zip (acc ++ [v]))) (ts ++ [t]) (acc ++ [v]) [] [] (.dic (by simp [l])) fun H' fu f kp ru rl => ⟨f ++ fu, [], RepTs.append rl ru, nilR H', fun a => by rw [List.count_append]; simp; omega⟩
      refine fin _ ?_
      unfold putKey
      rw [hj]
      exact o2
    | some j =>
      have hjl := keyIx_lt hj
      have o2 := kk (.dic ks (ts.set j t)) (.dK (ks.zip (acc.set j v))) (ts.set j t) (acc.set j v) [] [] (.dic (by simp [l])) fun H' fu f kp ru rl => by
        obtain ⟨f', r', c'⟩ := RepTs.upd1 rl (RepTs.one.mp ru) (show j < ts.length by omega)
        exact ⟨f', [], r', nilR H', fun a => by simpa using c' a⟩
      refine fin _ ?_
      unfold putKey
      rw [hj]
      exact o2
def evSet (a : Pt) (q : P) (t : T) (ρ : Sl) : Option Fl :=
  match rsvPt a ρ with
  | some (i, p, s) => match evP q ρ with
    | some x => match setT s x.d t with
      | some s' => match ρ[i]? with
        | some (some t0) => some (.nx (ρ.set i (some (putT p t0 s'))))
        | _ => none
      | none => none
    | none => none
  | none => none
/-- x[..][k] = e -/
theorem sj_set (k : Cp X g c) {a : Pt} {q : P} {o i v : Expr} {tp : Pos} (ha : mtPt c a o = true) (hi : slB i = false) (hq : PJ X g (evP q) i) (hv : CJ X g W fa v) : SJ X g c W (fun ρ => bindE (fa ρ) fun t ρ1 => evSet a q t ρ1) (.Assign [.Subscript o i tp] v pos) := by
  obtain ⟨to, po, ro⟩ := sndPt k a o ha
  obtain ⟨ti, pi, ri⟩ := hq
  obtain ⟨tv, pv, rv⟩ := hv
  refine ⟨_, ps_asg pv (pg_sub po pi (set_any (by have := k.hu; omega)) (sub_plain ha hi)) asg_sub_none (by rfl), fun e ρ τ σ H Hs D hp o q => ?_⟩
  refine rv e ρ τ σ H Hs _ o (PostS.bindE q fun t ρ1 _ v H1 Hs1 o1 q1 => ?_)
  unfold evSet at q1
  split at q1 <;> (try exact q1.elim)
  rename_i i p s hr
  split at q1 <;> (try exact q1.elim)
  rename_i x hx
  split at q1 <;> (try exact q1.elim)
  rename_i s' hs
  obtain ⟨O, vw⟩ := o1.view
  refine ro ρ1 σ H1 Hs1 O i p s vw hr _ fun w pt => ri ρ1 σ H1 Hs1 O x vw hx _ fun y fy ry => ?_
  refine o1.setPt k.hk pt (ry.r.now vw.sub) hs fun t0 H' ht o2 => ?_
  rw [ht] at q1
  exact q1 σ H' Hs1 o2
end
end DL
namespace DL
open PySem PySem.Spec PyProof.Rows L2

/-! ### lists and tuples put together, cut -/
def lstItems : T → Option (List T)
  | .fz (.lst ds) => some (ds.map T.fz)
  | .lst ts => some ts
  | _ => none
def cutG {α : Type} (xs : List α) (lo hi : Option Int) : List α := (xs.drop (HT.sIx xs.length 0 lo)).take (HT.sIx xs.length xs.length hi - HT.sIx xs.length 0 lo)
def addT (x y : T) : Option T :=
  match lstItems x, lstItems y with
  | some us, some ws => if us.length + ws.length ≤ sizeLine then some (.lst (us ++ ws)) else none
  | _, _ => match kidsT x, kidsT y with
    | some us, some ws => if us.length + ws.length ≤ sizeLine ∧ us ≠ [] then some (if ws = [] then x else tupT (us ++ ws)) else none
    | _, _ => (o2 .add x.d y.d).map T.fz
def sliceT (x : T) (lo hi : Option Int) : Option T :=
  match lstItems x with
  | some us => some (.lst (cutG us lo hi))
  | none => match kidsT x with
    | some us => if HT.sIx us.length 0 lo = 0 ∧ HT.sIx us.length us.length hi = us.length then none else some (tupT (cutG us lo hi))
    | none => match x with
      | .fz (.str z) => if z.length ≤ sizeLine then some (.fz (.str (cutS z lo hi))) else none
      | _ => none
section
variable {X : Cx} {g : Gx} {c : Cxt} {W : WX} {e1 e2 e3 ex : Expr} {es : List Expr} {fa fb fd : Sl → Option (Rs T)} {pos apos cpos : Pos} {e : Fr0} {ρ ρ' : Sl} {τ : Tm} {σ σ' : L2.St} {H H' Hs Hs' : Hp}
def rCatR : R2 := fun x y H Q => ∃ l b xs zs, x = .ref l ∧ y = .ref b ∧ Rd H l (.lst xs) ∧ Rd H b (.lst zs) ∧ xs.length + zs.length ≤ sizeLine ∧ ∀ p, H p = none → Q (.ref p) (upd H p (.lst (xs ++ zs)))
theorem op_catR : OpR X (binaryOp .Add) rCatR := by
  intro pn s σ H x y v u Q I rx ry h
  obtain ⟨l, b, xs, zs, rfl, rfl, hl, hb, hz, q⟩ := h
  cases rx
  cases ry
  obtain ⟨_, i1, n1, r1, e1⟩ := hl.ok I.hok
  obtain ⟨_, i2, n2, r2, e2⟩ := hb.ok I.hok
  have l1 := r1.length
  have l2 := r2.length
  refine PySem.P.add_list e1 e2 ?_ (by rw [List.size_toArray, List.size_toArray]; omega)
  rw [show i1.toArray ++ i2.toArray = (i1 ++ i2).toArray by simp]
  exact ⟨.ref _, _, I.lnew (t' := s.toks) (r1.append r2) (by rw [List.length_append]; exact hz), rfl, q _ I.fresh⟩
/-- a list at hand: its parts at hand -/
theorem Ok.items {v : V} {t : T} {us : List T} (o : Ok g e ρ (([v], [t]) :: τ) σ H Hs) (h : lstItems t = some us) : ∃ a vs, v = .ref a ∧ Rd H a (.lst vs) ∧ vs.length = us.length ∧ Ok g e ρ ((vs, us) :: τ) σ H Hs := by
  unfold lstItems at h
  split at h
  · rename_i ds
    cases h
    obtain ⟨f, r⟩ := o.top
    simp only [RepT, Rep] at r
    obtain ⟨⟨a, vs, rfl, q, r⟩, _⟩ := r
    exact ⟨a, vs, rfl, Same.rd o.sub q, by rw [r.length, List.length_map], o.drop.pushs r⟩
  · rename_i ts
    cases h
    obtain ⟨fs, ft, r1, r2, c, n⟩ := o.own
    obtain ⟨f, f', ef, z, r⟩ := r2
    have z' := RepTs.one.mp z
    clear z
    simp only [RepT] at z'
    obtain ⟨a, vs, f1, rfl, q, rfl, z⟩ := z'
    subst ef
    exact ⟨a, vs, rfl, .inl q, z.length, o.sub, o.sub0, o.new, o.frame, o.there, o.fix, fs, f1 ++ f', r1, ⟨f1, f', rfl, z, r⟩, fun b => by have := c b; simp only [List.cons_append, List.count_cons] at this; omega, fun b hb => n b (hb.imp id fun z => by simp only [List.cons_append, List.mem_cons]; exact .inr z)⟩
  · cases h
/-- the parts of a new tuple -/
theorem Ok.newTup {vs : List V} {ts : List T} {p : Addr} (o : Ok g e ρ ((vs, ts) :: τ) σ H Hs) (hp : H p = none) : Ok g e ρ (([.ref p], [tupT ts]) :: τ) σ (upd H p (.tup vs)) (upd Hs p (.tup vs)) := by
  refine o.pack (ps := []) (upd_keep hp) (fun _ z => nomatch z) (fun _ z => nomatch z) List.nodup_nil (Same_upd (o.freeS hp)) (fun a u z => ?_) (fun a z => ?_) (fun _ z => nomatch z) fun f r => by
    rw [List.nil_append]
    exact tupT_rep upd_same r
  · by_cases h : a = p
    · subst h; rw [upd_same] at z ⊢; exact z
    · rw [upd_ne h] at z ⊢; exact o.sub a u z
  · by_cases h : a = p
    · subst h; exact .inr hp
    · rw [upd_ne h] at z; exact .inl z
theorem cj_add (k : Cp X g c) (ha : CJ X g W fa e1) (hb : CJ X g W fb e2) : CJ X g W (fun ρ => bindR (fa ρ) fun x ρ1 => bindR (fb ρ1) fun y ρ2 => okR (addT x y) ρ2) (.BinOp e1 .Add e2 pos) := by
  obtain ⟨ta, pa, ra⟩ := ha
  obtain ⟨tb, pb, rb⟩ := hb
  obtain ⟨r, hr, rr⟩ := opD (X := X) k.hk (by have := k.hu; omega) .add
  refine ⟨_, pe_op (op_catR.or (op_catT.or hr)) pa pb, fun e ρ τ σ H Hs Q o q => ?_⟩
  refine ra e ρ τ σ H Hs _ o (Post.bind q fun x ρ1 _ va H1 Hs1 o1 q1 => ?_)
  refine rb e ρ1 _ σ H1 Hs1 _ o1 (Post.bindD q1 fun y ρ2 _ vb H2 Hs2 o2 q2 => ?_)
  obtain ⟨t, ht, q2⟩ := q2.okR
  unfold addT at ht
  split at ht
  · rename_i us ws hx hy
    split at ht <;> (try (cases ht; done))
    rename_i hz
    cases ht
    obtain ⟨b, vb', rfl, h1, h2, o3⟩ := o2.items hy
    obtain ⟨a, va', rfl, h3, h4, o4⟩ := o3.swap.items hx
    exact .inl ⟨a, b, va', vb', rfl, rfl, h3, h1, by rw [h4, h2]; exact hz, fun p hp => q2 _ _ _ (o4.swap.merge.newList hp)⟩
  · split at ht
    · rename_i us ws hx hy
      split at ht <;> (try (cases ht; done))
      rename_i hz
      cases ht
      obtain ⟨b, vb', rfl, h1, h2, o3⟩ := o2.kids hy
      obtain ⟨a, va', rfl, h3, h4, o4⟩ := o3.swap.kids hx
      refine .inr (.inl ⟨a, b, va', vb', rfl, rfl, k.hk ▸ h3, k.hk ▸ h1, fun z => hz.2 (List.length_eq_zero_iff.mp (by rw [← h4, z]; rfl)), by rw [h4, h2]; exact hz.1, fun z => ?_, fun z p hp => ?_⟩)
      · have : ws = [] := List.length_eq_zero_iff.mp (by rw [← h2, z]; rfl)
        rw [if_pos this] at q2
        exact q2 _ _ _ o2.drop
      · have : ws ≠ [] := fun z' => z (List.length_eq_zero_iff.mp (by rw [h2, z']; rfl))
        rw [if_neg this] at q2
        exact q2 _ _ _ (o4.swap.merge.newTup hp)
    · simp only [Option.map_eq_some_iff] at ht
      obtain ⟨d, hd, rfl⟩ := ht
      obtain ⟨fy, ry⟩ := o2.top
      obtain ⟨fx, rx⟩ := o2.swap.top
      obtain ⟨h1, h2⟩ := rr H2 x.d y.d va vb d (rx.now o2.sub) (ry.now o2.sub) hd
      exact .inr (.inr (h2 Q (q2 _ H2 Hs2 (o2.drop.drop.push (Rep.at h1)))))
/-! slices -/
def POJ (X : Cx) (g : Gx) (W : WX) (f : Sl → Option (Rs (Option Int))) (p : Option Expr) : Prop :=
  ∃ tp, PO X p tp ∧ ∀ e ρ τ σ H Hs (Q : Option Int → Hp → Prop), Ok g e ρ τ σ H Hs → (match f ρ with
    | none => False
    | some (.ok i ρ') => ∀ H' Hs', Ok g e ρ' τ σ H' Hs' → Q i H'
    | some (.ex c t ρ') => XP g W e τ σ c t ρ') → tp σ H Q
theorem poj_none : POJ X g W (fun ρ => some (.ok none ρ)) none := ⟨_, po_none, fun e ρ τ σ H Hs Q o q => q H Hs o⟩
def intD : D → Option Int
  | .int i => some i
  | _ => none
theorem poj_some (ha : CJ X g W fa e1) : POJ X g W (fun ρ => bindR (fa ρ) fun x ρ1 => okR ((intD x.d).map some) ρ1) (some e1) := by
  obtain ⟨ta, pa, ra⟩ := ha
  refine ⟨_, po_some pa, fun e ρ τ σ H Hs Q o q => ?_⟩
  refine ra e ρ τ σ H Hs _ o ?_
  dsimp only at q
  cases h : fa ρ with
  | none => rw [h] at q; exact q
  | some r =>
    rw [h] at q
    cases r with
    | ex c t ρ' => exact q
    | ok x ρ1 =>
      intro v H1 Hs1 o1
      simp only [bindR] at q
      obtain ⟨f, rx⟩ := o1.top
      have rx := rx.now o1.sub
      cases hd : x.d <;> rw [hd] at q rx <;> (try exact q.elim)
      simp only [Rep] at rx
      exact ⟨_, rx, q H1 Hs1 o1.drop⟩
theorem RepTs.cut {ts : List T} {vs : List V} {f : List Addr} (r : RepTs g Hs H ts vs f) (lo hi : Option Int) : ∃ f', RepTs g Hs H (cutG ts lo hi) (cutV vs lo hi) f' ∧ ∀ a, f'.count a ≤ f.count a := by
  have hl := r.length
  unfold cutG cutV
  rw [hl]
  obtain ⟨f1, f2, _, r2, rfl⟩ := RepTs.split (HT.sIx ts.length 0 lo) r
  obtain ⟨f3, f4, r3, _, rfl⟩ := RepTs.split (HT.sIx ts.length ts.length hi - HT.sIx ts.length 0 lo) r2
  exact ⟨f3, r3, fun a => by simp only [List.count_append]; omega⟩
theorem Ok.cutH {vs : List V} {ts : List T} (lo hi : Option Int) (o : Ok g e ρ ((vs, ts) :: τ) σ H Hs) : Ok g e ρ ((cutV vs lo hi, cutG ts lo hi) :: τ) σ H Hs := by
  obtain ⟨fs, ft, r1, r2, c, n⟩ := o.own
  obtain ⟨f, f', rfl, z, r⟩ := r2
  obtain ⟨f1, r3, c3⟩ := z.cut lo hi
  refine ⟨o.sub, o.sub0, o.new, o.frame, o.there, o.fix, fs, f1 ++ f', r1, ⟨f1, f', rfl, r3, r⟩, fun a => ?_, fun a ha => n a ?_⟩
  · have := c a; have := c3 a; simp only [List.count_append] at *; omega
  · refine ha.imp id fun z => ?_
    rcases List.mem_append.mp z with z | z
    · have := List.count_pos_iff.mpr z
      have := c3 a
      exact List.mem_append.mpr (.inl (List.count_pos_iff.mp (by omega)))
    · exact List.mem_append.mpr (.inr z)
theorem cj_slice {lo hi : Option Expr} {fl fh : Sl → Option (Rs (Option Int))} {p2 : Pos} (k : Cp X g c) (ha : CJ X g W fa e1) (hl : POJ X g W fl lo) (hh : POJ X g W fh hi) : CJ X g W (fun ρ => bindR (fa ρ) fun x ρ1 => bindR (fl ρ1) fun l ρ2 => bindR (fh ρ2) fun h ρ3 => okR (sliceT x l h) ρ3) (.Subscript e1 (.Slice lo hi none p2) pos) := by
  obtain ⟨ta, pa, ra⟩ := ha
  obtain ⟨tl, pl, rl⟩ := hl
  obtain ⟨th, ph, rh⟩ := hh
  refine ⟨_, pe_slice (sl_list.or (sl_tup.or sl_str)) pa pl ph, fun e ρ τ σ H Hs Q o q => ?_⟩
  refine ra e ρ τ σ H Hs _ o (Post.bind q fun x ρ1 _ va H1 Hs1 o1 q1 => ?_)
  refine rl e ρ1 _ σ H1 Hs1 _ o1 ?_
  cases h1 : fl ρ1 with
  | none => rw [h1] at q1; exact q1
  | some r1 =>
    rw [h1] at q1
    cases r1 with
    | ex c t ρ' => exact XP.drop q1
    | ok l ρ2 =>
      intro H2 Hs2 o2
      simp only [bindR] at q1
      refine rh e ρ2 _ σ H2 Hs2 _ o2 ?_
      cases h2 : fh ρ2 with
      | none => rw [h2] at q1; exact q1
      | some r2 =>
        rw [h2] at q1
        cases r2 with
        | ex c t ρ' => exact XP.drop q1
        | ok u ρ3 =>
          intro H3 Hs3 o3
          simp only [bindR] at q1
          obtain ⟨t, ht, q3⟩ := q1.okR
          unfold sliceT at ht
          split at ht
          · rename_i us hx
            cases ht
            obtain ⟨a, vs, rfl, h3, h4, o4⟩ := o3.items hx
            exact .inl ⟨a, vs, rfl, .inl h3, fun p hp => q3 _ _ _ ((o4.cutH l u).newList hp)⟩
          · split at ht
            · rename_i us hx
              split at ht <;> (try (cases ht; done))
              rename_i hz
              cases ht
              obtain ⟨a, vs, rfl, h3, h4, o4⟩ := o3.kids hx
              exact .inr (.inl ⟨a, vs, rfl, k.hk ▸ h3, by rw [h4]; exact hz, fun p hp => q3 _ _ _ ((o4.cutH l u).newTup hp)⟩)
            · split at ht <;> (try (cases ht; done))
              rename_i z hfa _ _
              split at ht <;> (try (cases ht; done))
              rename_i hz
              cases ht
              obtain ⟨f, rx⟩ := o3.top
              simp only [RepT, Rep] at rx
              exact .inr (.inr ⟨z, rx.1, hz, q3 _ _ _ (o3.drop.push (d := .str (cutS z l u)) (by simp only [Rep]))⟩)
end
end DL
namespace DL
open PySem PySem.Spec PyProof.Rows L2

/-! ### built-in functions of values -/
inductive Bf where
  | list | tuple | sorted | all | any | sum | min | max | divmod | repr | bool | str | len | int | abs | min2 | max2
  deriving DecidableEq
def Bf.nm : Bf → Str
  | .list => "list" | .tuple => "tuple" | .sorted => "sorted" | .all => "all" | .any => "any" | .sum => "sum" | .min => "min" | .max => "max" | .divmod => "divmod" | .repr => "repr" | .bool => "bool" | .str => "str"
  | .len => "len" | .int => "int" | .abs => "abs" | .min2 => "min" | .max2 => "max"
def Bf.val : Bf → Value
  | .list => .type "list" | .tuple => .type "tuple" | .bool => .type "bool" | .str => .type "str" | .int => .type "int"
  | .sorted => .builtin "sorted" | .all => .builtin "all" | .any => .builtin "any" | .sum => .builtin "sum" | .min => .builtin "min" | .max => .builtin "max" | .divmod => .builtin "divmod" | .repr => .builtin "repr"
  | .len => .builtin "len" | .abs => .builtin "abs" | .min2 => .builtin "min" | .max2 => .builtin "max"
def intsD : List D → Option (List Int)
  | [] => some []
  | .int i :: ds => (intsD ds).map (i :: ·)
  | _ => none
def blsD : List D → Option (List Bool)
  | [] => some []
  | .bl i :: ds => (blsD ds).map (i :: ·)
  | _ => none
def lstDs (t : T) : Option (List D) := lstD t.d
def sortI (ns : List Int) : List Int := ns.mergeSort (fun a b => decide (a ≤ b))
def maxI : Int → List Int → Int
  | m, [] => m
  | m, n :: ns => maxI (if n > m then n else m) ns
def minI : Int → List Int → Int
  | m, [] => m
  | m, n :: ns => minI (if n < m then n else m) ns
def reprD (d : D) : Option D := if d.py.canLay0 = true ∧ d.py.showable = true ∧ d.py.depth ≤ 60 ∧ d.py.hasDict = false ∧ d.py.shown.length ≤ sizeLine then some (.str d.py.shown) else none
def bfT : Bf → List T → Option T
  | .list, [t] => match lstItems t with
    | some us => some (.lst us)
    | none => (kidsT t).map T.lst
  | .tuple, [t] => match lstItems t with
    | some us => some (tupT us)
    | none => (kidsT t).map fun _ => t
  | .sorted, [t] => ((lstDs t).bind intsD).map fun ns => .lst ((sortI ns).map fun n => .fz (.int n))
  | .all, [t] => ((lstDs t).bind blsD).map fun bs => .fz (.bl (bs.all id))
  | .any, [t] => ((lstDs t).bind blsD).map fun bs => .fz (.bl (bs.any id))
  | .sum, [t] => ((lstDs t).bind intsD).map fun ns => .fz (.int ns.sum)
  | .min, [t] => match (lstDs t).bind intsD with
    | some (n :: ns) => some (.fz (.int (minI n ns)))
    | _ => none
  | .max, [t] => match (lstDs t).bind intsD with
    | some (n :: ns) => some (.fz (.int (maxI n ns)))
    | _ => none
  | .divmod, [t, u] => match t.d, u.d with
    | .int i, .int j => if 0 < j ∧ j < 1073741824 then some (.fz (.tup [.int (i / j), .int (i % j)])) else none
    | _, _ => none
  | .repr, [t] => (reprD t.d).map T.fz
  | .bool, [t] => match t.d with
    | .int i => some (.fz (.bl (i != 0)))
    | .bl b => some (.fz (.bl b))
    | _ => none
  | .str, [t] => match t.d with
    | .int i => if i.natAbs.log2 < 1920 then some (.fz (.str (toString i))) else none
    | _ => none
  | .len, [t] => (b1D .len t.d).map T.fz
  | .int, [t] => (b1D .int t.d).map T.fz
  | .abs, [t] => (b1D .abs t.d).map T.fz
  | .min2, [t, u] => (b2D .min t.d u.d).map T.fz
  | .max2, [t, u] => (b2D .max t.d u.d).map T.fz
  | _, _ => none
section
variable {X : Cx} {g : Gx} {c : Cxt} {W : WX} {e1 e2 e3 ex : Expr} {es : List Expr} {pos : Pos} {e : Fr0} {ρ ρ' : Sl} {τ : Tm} {σ σ' : L2.St} {H H' Hs Hs' : Hp}
/-- what a rule of a call by values is good for -/
def BfR (X : Cx) (g : Gx) (b : Bf) : Prop := ∃ r : List V → Hp → VK → Prop, CallR X b.val r ∧
  ∀ e ρ τ σ H Hs ws us t (Q : VK), Ok g e ρ ((ws, us) :: τ) σ H Hs → bfT b us = some t → (∀ v H' Hs', Ok g e ρ (([v], [t]) :: τ) σ H' Hs' → Q v H') → r ws H Q
theorem Ok.one_ {ws : List V} {t : T} (o : Ok g e ρ ((ws, [t]) :: τ) σ H Hs) : ∃ v, ws = [v] := by
  obtain ⟨fs, ft, _, r, _⟩ := o.own
  obtain ⟨f, f', _, r, _⟩ := r
  have := r.length
  match ws, this with
  | [v], _ => exact ⟨v, rfl⟩
theorem Ok.two_ {ws : List V} {t u : T} (o : Ok g e ρ ((ws, [t, u]) :: τ) σ H Hs) : ∃ v w, ws = [v, w] ∧ Rep g H t.d v ∧ Rep g H u.d w := by
  obtain ⟨fs, ft, _, r, _⟩ := o.own
  obtain ⟨f, f', _, r, _⟩ := r
  simp only [RepTs] at r
  obtain ⟨v, vs1, f1, f2, e1, _, q1, w, vs2, f3, f4, e2, _, q2, e3, _⟩ := r
  subst e2
  subst e3
  exact ⟨v, w, e1, q1.now o.sub, q2.now o.sub⟩
theorem Reps.ints : ∀ {ds : List D} {vs : List V} {ns : List Int}, Reps g H ds vs → intsD ds = some ns → vs = ns.map V.int
  | [], _, _, r, h => by
    cases h
    simp only [Reps] at r
    subst r
    rfl
  | .int i :: ds, _, _, r, h => by
    simp only [intsD, Option.map_eq_some_iff] at h
    obtain ⟨ns, h, rfl⟩ := h
    simp only [Reps, Rep] at r
    obtain ⟨v, vs', rfl, rfl, r⟩ := r
    rw [List.map_cons, Reps.ints r h]
  | .non :: _, _, _, _, h => by cases h
  | .bl _ :: _, _, _, _, h => by cases h
  | .str _ :: _, _, _, _, h => by cases h
  | .tup _ :: _, _, _, _, h => by cases h
  | .lst _ :: _, _, _, _, h => by cases h
  | .dic _ _ :: _, _, _, _, h => by cases h
  | .obj _ _ _ :: _, _, _, _, h => by cases h
  | .scr _ :: _, _, _, _, h => by cases h
theorem Reps.bls : ∀ {ds : List D} {vs : List V} {ns : List Bool}, Reps g H ds vs → blsD ds = some ns → vs = ns.map V.bl
  | [], _, _, r, h => by
    cases h
    simp only [Reps] at r
    subst r
    rfl
  | .bl i :: ds, _, _, r, h => by
    simp only [blsD, Option.map_eq_some_iff] at h
    obtain ⟨ns, h, rfl⟩ := h
    simp only [Reps, Rep] at r
    obtain ⟨v, vs', rfl, rfl, r⟩ := r
    rw [List.map_cons, Reps.bls r h]
  | .non :: _, _, _, _, h => by cases h
  | .int _ :: _, _, _, _, h => by cases h
  | .str _ :: _, _, _, _, h => by cases h
  | .tup _ :: _, _, _, _, h => by cases h
  | .lst _ :: _, _, _, _, h => by cases h
  | .dic _ _ :: _, _, _, _, h => by cases h
  | .obj _ _ _ :: _, _, _, _, h => by cases h
  | .scr _ :: _, _, _, _, h => by cases h
theorem Ok.lstRd {v : V} {t : T} {ds : List D} (o : Ok g e ρ (([v], [t]) :: τ) σ H Hs) (h : lstDs t = some ds) : ∃ a vs, v = .ref a ∧ Rd H a (.lst vs) ∧ Reps g H ds vs := by
  obtain ⟨f, r⟩ := o.top
  have r := r.now o.sub
  unfold lstDs lstD at h
  split at h <;> (try (cases h; done))
  rename_i ds' hd
  cases h
  rw [hd] at r
  simp only [Rep] at r
  exact r
theorem fzInts_rep {ns : List Int} {S : Hp} : RepTs g S H (ns.map fun n => T.fz (.int n)) (ns.map V.int) [] := by
  induction ns with
  | nil => simp only [List.map_nil, RepTs]; exact ⟨trivial, trivial⟩
  | cons n ns ih =>
    simp only [List.map_cons, RepTs]
    exact ⟨_, _, [], [], rfl, rfl, RepT.fz (by simp only [Rep]), ih⟩
theorem Ok.fzInts (o : Ok g e ρ τ σ H Hs) (ns : List Int) : Ok g e ρ ((ns.map V.int, ns.map fun n => T.fz (.int n)) :: τ) σ H Hs := by
  obtain ⟨fs, ft, r1, r2, c, n⟩ := o.own
  exact ⟨o.sub, o.sub0, o.new, o.frame, o.there, o.fix, fs, ft, r1, ⟨[], ft, rfl, fzInts_rep, r2⟩, c, n⟩
theorem sort_uniq {a b : List Int} (p : a.Perm b) (ha : a.Pairwise (· ≤ ·)) (hb : b.Pairwise (· ≤ ·)) : a = b :=
  List.Perm.eq_of_pairwise (fun x y _ _ h1 h2 => Int.le_antisymm h1 h2) ha hb p
theorem sortI_perm (ns : List Int) : (sortI ns).Perm ns := List.mergeSort_perm _ _
theorem sortI_le (ns : List Int) : (sortI ns).Pairwise (· ≤ ·) := by
  have := List.pairwise_mergeSort (le := fun a b : Int => decide (a ≤ b)) (fun a b c h1 h2 => by simp only [decide_eq_true_eq] at *; omega) (fun a b => by simp only [Bool.or_eq_true, decide_eq_true_eq]; omega) ns
  exact this.imp fun h => by simpa using h
theorem maxI_spec : ∀ (ns : List Int) (m : Int), maxI m ns ∈ m :: ns ∧ ∀ y ∈ m :: ns, y ≤ maxI m ns
  | [], m => by simp [maxI]
  | n :: ns, m => by
    obtain ⟨h1, h2⟩ := maxI_spec ns (if n > m then n else m)
    simp only [maxI]
    refine ⟨?_, fun y hy => ?_⟩
    · rcases List.mem_cons.mp h1 with h | h
      · rw [h]; split <;> simp
      · simp [h]
    · have h3 := h2 (if n > m then n else m) (by simp)
      have h4 := fun y (hy : y ∈ ns) => h2 y (by simp [hy])
      generalize maxI (if n > m then n else m) ns = q at *
      rcases List.mem_cons.mp hy with rfl | hy
      · split at h3 <;> omega
      · rcases List.mem_cons.mp hy with rfl | hy
        · split at h3 <;> omega
        · exact h4 y hy
theorem minI_spec : ∀ (ns : List Int) (m : Int), minI m ns ∈ m :: ns ∧ ∀ y ∈ m :: ns, minI m ns ≤ y
  | [], m => by simp [minI]
  | n :: ns, m => by
    obtain ⟨h1, h2⟩ := minI_spec ns (if n < m then n else m)
    simp only [minI]
    refine ⟨?_, fun y hy => ?_⟩
    · rcases List.mem_cons.mp h1 with h | h
      · rw [h]; split <;> simp
      · simp [h]
    · have h3 := h2 (if n < m then n else m) (by simp)
      have h4 := fun y (hy : y ∈ ns) => h2 y (by simp [hy])
      generalize minI (if n < m then n else m) ns = q at *
      rcases List.mem_cons.mp hy with rfl | hy
      · split at h3 <;> omega
      · rcases List.mem_cons.mp hy with rfl | hy
        · split at h3 <;> omega
        · exact h4 y hy
/-- repr of data; no repr is under way -/
theorem call_reprD (kc : Cp X g c) : CallR X (.builtin "repr") (fun xs H Q => ∃ v d s, xs = [v] ∧ Rep g H d v ∧ reprD d = some (.str s) ∧ Q (.str s) H) := by
  intro pn s σ H xs us Q I r h
  obtain ⟨v, d, tx, rfl, rd, hd, q⟩ := h
  unfold reprD at hd
  split at hd <;> (try (cases hd; done))
  rename_i hc
  cases hd
  obtain ⟨h1, h2, h3, h4, h5⟩ := hc
  obtain ⟨u, rfl, ru⟩ := r.one
  have dp := rd.dp h1
  rw [kc.hk] at dp
  have fin : ∀ (h' : Heap) (t tk : Tok), (∀ b o, s.heap.get? b = some o → h'.get? b = some o) → EP X pn σ Q (.str d.py.shown t) { s with heap := h', toks := tk } := fun h' t tk kp => ⟨.str d.py.shown, H, I.kept (t' := tk) kp, ⟨_, rfl⟩, q⟩
  have hu := kc.hu
  cases d <;> simp only [D.py, PyData.canLay0, Bool.false_eq_true] at h1
  · simp only [Rep] at rd; subst rd; cases ru
    exact PySem.P.repr_of_none (fin s.heap _ _ fun _ _ z => z)
  · simp only [Rep] at rd; subst rd; cases ru
    exact PySem.P.repr_of_bool (fin s.heap _ _ fun _ _ z => z)
  · simp only [Rep] at rd; subst rd
    obtain ⟨t, rfl⟩ := ru
    exact PySem.P.repr_of_int (by simpa only [D.py, PyData.showable, decide_eq_true_eq] using h2) (fin s.heap _ _ fun _ _ z => z)
  · simp only [Rep] at rd; subst rd
    obtain ⟨t, rfl⟩ := ru
    exact PySem.P.repr_of_str (fin s.heap _ _ fun _ _ z => z) h5
  · obtain ⟨as, rr⟩ := Dp.reads I _ v u dp ru
    simp only [Rep] at rd
    obtain ⟨a, vs, rfl, _⟩ := rd
    cases ru
    exact repr_of_reads' rr h2 (fun z => by rw [h4] at z; cases z) kc.gd (by omega) (fun _ _ z => z) (fun h' t tk kp => fin h' t tk kp) h5
  · obtain ⟨as, rr⟩ := Dp.reads I _ v u dp ru
    simp only [Rep] at rd
    obtain ⟨a, vs, rfl, _⟩ := rd
    cases ru
    exact repr_of_reads' rr h2 (fun z => by rw [h4] at z; cases z) kc.gd (by omega) (fun _ _ z => z) (fun h' t tk kp => fin h' t tk kp) h5
theorem b1_fz {r : List V → Hp → VK → Prop} {b : B1} (rr : ∀ H d v w, Rep g H d v → b1D b d = some w → w.atom = true ∧ ∀ Q : VK, Q w.at H → r [v] H Q) {ws : List V} {t u : T} {Q : VK} (o : Ok g e ρ ((ws, [t]) :: τ) σ H Hs) (h : (b1D b t.d).map T.fz = some u) (q : ∀ v H' Hs', Ok g e ρ (([v], [u]) :: τ) σ H' Hs' → Q v H') : r ws H Q := by
  simp only [Option.map_eq_some_iff] at h
  obtain ⟨d, h, rfl⟩ := h
  obtain ⟨v, rfl⟩ := o.one_
  obtain ⟨f, rv⟩ := o.top
  obtain ⟨h1, h2⟩ := rr H t.d v d (rv.now o.sub) h
  exact h2 Q (q _ H Hs (o.drop.push (Rep.at h1)))
theorem bfOk (kc : Cp X g c) : ∀ b : Bf, BfR X g b := by
  intro b
  have hc := kc.calm
  cases b
  case list =>
    refine ⟨_, call_list_of, fun e ρ τ σ H Hs ws us t Q o h q => ?_⟩
    unfold bfT at h
    split at h <;> rename_i z <;> (try (cases z; done)) <;> (try (cases h; done))
    rename_i t1
    obtain ⟨v, rfl⟩ := o.one_
    split at h
    · rename_i us hu
      cases h
      obtain ⟨a, vs, rfl, h1, h2, o1⟩ := o.items hu
      exact ⟨a, vs, rfl, .inl (.inl h1), fun l hl => q _ _ _ (o1.newList hl)⟩
    · simp only [Option.map_eq_some_iff] at h
      obtain ⟨us, hu, rfl⟩ := h
      obtain ⟨a, vs, rfl, h1, h2, o1⟩ := o.kids hu
      exact ⟨a, vs, rfl, .inr (kc.hk ▸ h1), fun l hl => q _ _ _ (o1.newList hl)⟩
  case tuple =>
    refine ⟨_, call_tuple_of, fun e ρ τ σ H Hs ws us t Q o h q => ?_⟩
    unfold bfT at h
    split at h <;> rename_i z <;> (try (cases z; done)) <;> (try (cases h; done))
    rename_i t1
    obtain ⟨v, rfl⟩ := o.one_
    split at h
    · rename_i us hu
      cases h
      obtain ⟨a, vs, rfl, h1, h2, o1⟩ := o.items hu
      exact ⟨a, vs, rfl, .inl ⟨.inl h1, fun l hl => q _ _ _ (o1.newTup hl)⟩⟩
    · simp only [Option.map_eq_some_iff] at h
      obtain ⟨us, hu, rfl⟩ := h
      obtain ⟨a, vs, rfl, h1, h2, o1⟩ := o.kids hu
      exact ⟨a, vs, rfl, .inr ⟨kc.hk ▸ h1, q _ _ _ o⟩⟩
  case sorted =>
    refine ⟨_, cr_sortedI, fun e ρ τ σ H Hs ws us t Q o h q => ?_⟩
    unfold bfT at h
    split at h <;> rename_i z <;> (try (cases z; done)) <;> (try (cases h; done))
    obtain ⟨v, rfl⟩ := o.one_
    simp only [Option.map_eq_some_iff, Option.bind_eq_some_iff] at h
    obtain ⟨ns, ⟨ds, hd, hn⟩, rfl⟩ := h
    obtain ⟨a, vs, rfl, h1, h2⟩ := o.lstRd hd
    have e1 := h2.ints hn
    subst e1
    refine ⟨a, ns, rfl, .inl h1, fun ns' p hp1 hp2 hp => q _ _ Hs ?_⟩
    have : ns' = sortI ns := sort_uniq (hp1.trans (sortI_perm ns).symm) hp2 (sortI_le ns)
    subst this
    exact (o.drop.fzInts _).newList hp
  case all =>
    refine ⟨_, cr_all hc, fun e ρ τ σ H Hs ws us t Q o h q => ?_⟩
    unfold bfT at h
    split at h <;> rename_i z <;> (try (cases z; done)) <;> (try (cases h; done))
    obtain ⟨v, rfl⟩ := o.one_
    simp only [Option.map_eq_some_iff, Option.bind_eq_some_iff] at h
    obtain ⟨ns, ⟨ds, hd, hn⟩, rfl⟩ := h
    obtain ⟨a, vs, rfl, h1, h2⟩ := o.lstRd hd
    have e1 := h2.bls hn
    subst e1
    exact ⟨a, ns, rfl, .inl h1, q _ H Hs (o.drop.push (by simp only [Rep]))⟩
  case any =>
    refine ⟨_, cr_any hc, fun e ρ τ σ H Hs ws us t Q o h q => ?_⟩
    unfold bfT at h
    split at h <;> rename_i z <;> (try (cases z; done)) <;> (try (cases h; done))
    obtain ⟨v, rfl⟩ := o.one_
    simp only [Option.map_eq_some_iff, Option.bind_eq_some_iff] at h
    obtain ⟨ns, ⟨ds, hd, hn⟩, rfl⟩ := h
    obtain ⟨a, vs, rfl, h1, h2⟩ := o.lstRd hd
    have e1 := h2.bls hn
    subst e1
    exact ⟨a, ns, rfl, .inl h1, q _ H Hs (o.drop.push (by simp only [Rep]))⟩
  case sum =>
    refine ⟨_, cr_sum hc, fun e ρ τ σ H Hs ws us t Q o h q => ?_⟩
    unfold bfT at h
    split at h <;> rename_i z <;> (try (cases z; done)) <;> (try (cases h; done))
    obtain ⟨v, rfl⟩ := o.one_
    simp only [Option.map_eq_some_iff, Option.bind_eq_some_iff] at h
    obtain ⟨ns, ⟨ds, hd, hn⟩, rfl⟩ := h
    obtain ⟨a, vs, rfl, h1, h2⟩ := o.lstRd hd
    have e1 := h2.ints hn
    subst e1
    exact ⟨a, ns, rfl, .inl h1, q _ H Hs (o.drop.push (by simp only [Rep]))⟩
  case min =>
    refine ⟨_, cr_min hc, fun e ρ τ σ H Hs ws us t Q o h q => ?_⟩
    unfold bfT at h
    split at h <;> rename_i z <;> (try (cases z; done)) <;> (try (cases h; done))
    obtain ⟨v, rfl⟩ := o.one_
    split at h <;> (try (cases h; done))
    rename_i n ns hn
    cases h
    simp only [Option.bind_eq_some_iff] at hn
    obtain ⟨ds, hd, hn⟩ := hn
    obtain ⟨a, vs, rfl, h1, h2⟩ := o.lstRd hd
    have e1 := h2.ints hn
    subst e1
    refine ⟨a, n :: ns, rfl, .inl h1, by simp, fun m hm1 hm2 => q _ H Hs (o.drop.push ?_)⟩
    obtain ⟨k1, k2⟩ := minI_spec ns n
    have : m = minI n ns := Int.le_antisymm (hm2 _ k1) (k2 _ hm1)
    simp only [Rep, this]
  case max =>
    refine ⟨_, cr_max hc, fun e ρ τ σ H Hs ws us t Q o h q => ?_⟩
    unfold bfT at h
    split at h <;> rename_i z <;> (try (cases z; done)) <;> (try (cases h; done))
    obtain ⟨v, rfl⟩ := o.one_
    split at h <;> (try (cases h; done))
    rename_i n ns hn
    cases h
    simp only [Option.bind_eq_some_iff] at hn
    obtain ⟨ds, hd, hn⟩ := hn
    obtain ⟨a, vs, rfl, h1, h2⟩ := o.lstRd hd
    have e1 := h2.ints hn
    subst e1
    refine ⟨a, n :: ns, rfl, .inl h1, by simp, fun m hm1 hm2 => q _ H Hs (o.drop.push ?_)⟩
    obtain ⟨k1, k2⟩ := maxI_spec ns n
    have : m = maxI n ns := Int.le_antisymm (k2 _ hm1) (hm2 _ k1)
    simp only [Rep, this]
  case divmod =>
    refine ⟨_, call_divmod, fun e ρ τ σ H Hs ws us t Q o h q => ?_⟩
    unfold bfT at h
    split at h <;> rename_i z <;> (try (cases z; done)) <;> (try (cases h; done))
    obtain ⟨v, w, rfl, r1, r2⟩ := o.two_
    split at h <;> (try (cases h; done))
    rename_i i j hi hj
    split at h <;> (try (cases h; done))
    rename_i hz
    cases h
    rw [hi] at r1
    rw [hj] at r2
    simp only [Rep] at r1 r2
    subst r1
    subst r2
    refine ⟨i, j, rfl, ⟨hz.1, hz.2⟩, fun p hp => ?_⟩
    have o1 := (o.drop.push (d := .int (i / j)) (v := .int (i / j)) (by simp only [Rep]))
    have o2 := (o1.push (d := .int (i % j)) (v := .int (i % j)) (by simp only [Rep])).merge.newTup hp
    exact q _ _ _ o2
  case repr =>
    refine ⟨_, call_reprD kc, fun e ρ τ σ H Hs ws us t Q o h q => ?_⟩
    unfold bfT at h
    split at h <;> rename_i z <;> (try (cases z; done)) <;> (try (cases h; done))
    rename_i t1
    obtain ⟨v, rfl⟩ := o.one_
    obtain ⟨f, rv⟩ := o.top
    simp only [Option.map_eq_some_iff] at h
    obtain ⟨d, h, rfl⟩ := h
    have hs : ∃ s, d = .str s := by
      unfold reprD at h
      split at h <;> cases h
      exact ⟨_, rfl⟩
    obtain ⟨s, rfl⟩ := hs
    exact ⟨v, t1.d, s, rfl, rv.now o.sub, h, q _ H Hs (o.drop.push (by simp only [Rep]))⟩
  case bool =>
    refine ⟨_, call_bool1, fun e ρ τ σ H Hs ws us t Q o h q => ?_⟩
    unfold bfT at h
    split at h <;> rename_i z <;> (try (cases z; done)) <;> (try (cases h; done))
    obtain ⟨v, rfl⟩ := o.one_
    obtain ⟨f, rv⟩ := o.top
    have rv := rv.now o.sub
    split at h <;> (try (cases h; done)) <;> rename_i i hi <;> cases h <;> rw [hi] at rv <;> simp only [Rep] at rv <;> subst rv
    · exact .inl ⟨_, rfl, q _ H Hs (o.drop.push (by simp only [Rep]))⟩
    · exact .inr ⟨_, rfl, q _ H Hs (o.drop.push (by simp only [Rep]))⟩
  case str =>
    refine ⟨_, call_str_int, fun e ρ τ σ H Hs ws us t Q o h q => ?_⟩
    unfold bfT at h
    split at h <;> rename_i z <;> (try (cases z; done)) <;> (try (cases h; done))
    obtain ⟨v, rfl⟩ := o.one_
    obtain ⟨f, rv⟩ := o.top
    have rv := rv.now o.sub
    split at h <;> (try (cases h; done))
    rename_i i hi
    split at h <;> (try (cases h; done))
    rename_i hz
    cases h
    rw [hi] at rv
    simp only [Rep] at rv
    subst rv
    exact ⟨_, rfl, hz, q _ H Hs (o.drop.push (by simp only [Rep]))⟩
  case len =>
    obtain ⟨r, hr, rr⟩ := b1R (X := X) kc.hk .len
    refine ⟨r, hr, fun e ρ τ σ H Hs ws us t Q o h q => ?_⟩
    unfold bfT at h
    split at h <;> rename_i z <;> (try (cases z; done)) <;> (try (cases h; done))
    exact b1_fz rr o h q
  case int =>
    obtain ⟨r, hr, rr⟩ := b1R (X := X) kc.hk .int
    refine ⟨r, hr, fun e ρ τ σ H Hs ws us t Q o h q => ?_⟩
    unfold bfT at h
    split at h <;> rename_i z <;> (try (cases z; done)) <;> (try (cases h; done))
    exact b1_fz rr o h q
  case abs =>
    obtain ⟨r, hr, rr⟩ := b1R (X := X) kc.hk .abs
    refine ⟨r, hr, fun e ρ τ σ H Hs ws us t Q o h q => ?_⟩
    unfold bfT at h
    split at h <;> rename_i z <;> (try (cases z; done)) <;> (try (cases h; done))
    exact b1_fz rr o h q
  case min2 =>
    obtain ⟨r, hr, rr⟩ := b2R (X := X) (g := g) hc .min
    refine ⟨r, hr, fun e ρ τ σ H Hs ws us t Q o h q => ?_⟩
    unfold bfT at h
    split at h <;> rename_i z <;> (try (cases z; done)) <;> (try (cases h; done))
    simp only [Option.map_eq_some_iff] at h
    obtain ⟨d, h, rfl⟩ := h
    obtain ⟨v, w, rfl, r1, r2⟩ := o.two_
    obtain ⟨h1, h2⟩ := rr H _ _ v w d r1 r2 h
    exact h2 Q (q _ H Hs (o.drop.push (Rep.at h1)))
  case max2 =>
    obtain ⟨r, hr, rr⟩ := b2R (X := X) (g := g) hc .max
    refine ⟨r, hr, fun e ρ τ σ H Hs ws us t Q o h q => ?_⟩
    unfold bfT at h
    split at h <;> rename_i z <;> (try (cases z; done)) <;> (try (cases h; done))
    simp only [Option.map_eq_some_iff] at h
    obtain ⟨d, h, rfl⟩ := h
    obtain ⟨v, w, rfl, r1, r2⟩ := o.two_
    obtain ⟨h1, h2⟩ := rr H _ _ v w d r1 r2 h
    exact h2 Q (q _ H Hs (o.drop.push (Rep.at h1)))
/-- f(e, ..) of a built-in -/
theorem cj_bf (kc : Cp X g c) {b : Bf} {f : Str} {fr : Sl → Option (Rs (List T))} {p : Pos} (hf : f = b.nm) (hg : glB c f = true) (hs : ∀ x ∈ e1 :: es, starB x = false) (ha : AJ X g W fr (e1 :: es)) :
    CJ X g W (fun ρ => bindR (fr ρ) fun us ρ1 => okR (bfT b us) ρ1) (.Call (.Name f p) (e1 :: es) [] pos) := by
  obtain ⟨r, hr, rr⟩ := bfOk kc b
  obtain ⟨ta, pa, ra⟩ := ha
  refine ⟨fun σ H Q => ta σ H fun vs H1 => r vs H1 Q, ?_, fun e ρ τ σ H Hs Q o q => ?_⟩
  · subst hf
    cases b <;> first
      | exact pe_callTy hr (kc.gl hg) (kc.bn _ (by decide)) (by decide +kernel) pa (by decide) (by decide) (star_cons (hs _ (by simp))) (star_none fun x hx => hs x (by simp [hx]))
      | exact pe_callB hr (kc.gl hg) (kc.bn _ (by decide)) (by decide +kernel) pa (by decide) (by decide) (star_cons (hs _ (by simp))) (star_none fun x hx => hs x (by simp [hx]))
  · refine ra e ρ τ σ H Hs _ o (Post.bind q fun us ρ1 _ ws H1 Hs1 o1 q1 => ?_)
    obtain ⟨t, ht, q2⟩ := q1.okR
    exact rr e ρ1 τ σ H1 Hs1 ws us t Q o1 ht q2
end
end DL
namespace DL
open PySem PySem.Spec PyProof.Rows L2
/-! ### sets of many ints: the table -/
/-- 1 + 5 + 25 + .. -/
def X5 : Nat → Nat
  | 0 => 0
  | n + 1 => 5 * X5 n + 1
theorem X5_add (a : Nat) : ∀ b, X5 (a + b) = X5 a + X5 b + 4 * (X5 a * X5 b)
  | 0 => by simp [X5]
  | b + 1 => by
    show 5 * X5 (a + b) + 1 = X5 a + (5 * X5 b + 1) + 4 * (X5 a * (5 * X5 b + 1))
    rw [X5_add a b]
    have e : X5 a * (5 * X5 b + 1) = 5 * (X5 a * X5 b) + X5 a := by rw [Nat.mul_add, Nat.mul_one, Nat.mul_left_comm]
    rw [e]
    omega
theorem lcg_X5 (m : Nat) : ∀ k, lcgN m k = X5 k % (m + 1)
  | 0 => by simp [lcgN, X5]
  | k + 1 => by
    show (lcgN m k * 5 + 1) % (m + 1) = (5 * X5 k + 1) % (m + 1)
    rw [lcg_X5 m k, Nat.mul_comm, Nat.add_mod, Nat.mul_mod, Nat.mod_mod, ← Nat.mul_mod, ← Nat.add_mod]
theorem X5_full : ∀ k, (∃ q, X5 (2 ^ k) = 2 ^ k * (2 * q + 1)) ∧ ∀ j, j < 2 ^ k → ∃ b, b < 2 ^ k ∧ X5 b % 2 ^ k = j
  | 0 => ⟨⟨0, rfl⟩, fun j hj => ⟨0, by decide, by simp [X5]; omega⟩⟩
  | k + 1 => by
    obtain ⟨⟨q, hq⟩, h⟩ := X5_full k
    have e2 : 2 ^ (k + 1) = 2 ^ k + 2 ^ k := by rw [Nat.pow_succ]; omega
    have pos : 0 < 2 ^ k := Nat.pow_pos (by decide)
    refine ⟨⟨q + X5 (2 ^ k) * (2 * q + 1), ?_⟩, fun j hj => ?_⟩
    · have e3 : X5 (2 ^ (k + 1)) = X5 (2 ^ k) + X5 (2 ^ k) + 4 * (X5 (2 ^ k) * X5 (2 ^ k)) := by rw [e2, X5_add]
      rw [e3]
      generalize hx : X5 (2 ^ k) = x at hq ⊢
      generalize 2 ^ k = p at hq e2 ⊢
      rw [e2]
      have e4 : x * x = p * (x * (2 * q + 1)) := by
        conv => lhs; arg 2; rw [hq]
        rw [Nat.mul_left_comm]
      have e5 : (p + p) * (2 * (q + x * (2 * q + 1)) + 1) = 2 * (p * (2 * q + 1)) + 4 * (p * (x * (2 * q + 1))) := by
        generalize x * (2 * q + 1) = y
        have : 2 * (q + y) + 1 = (2 * q + 1) + 2 * y := by omega
        rw [this, Nat.mul_add, Nat.add_mul, Nat.add_mul, Nat.mul_left_comm p 2 y]
        omega
      rw [e5, ← hq, e4]
      omega
    · obtain ⟨b, hb, eb⟩ := h (j % 2 ^ k) (Nat.mod_lt _ pos)
      have hs : X5 b % 2 ^ (k + 1) = j % 2 ^ k ∨ X5 b % 2 ^ (k + 1) = j % 2 ^ k + 2 ^ k := by
        have h1 : X5 b % 2 ^ (k + 1) % 2 ^ k = j % 2 ^ k := by rw [Nat.mod_mod_of_dvd _ ⟨2, by rw [Nat.pow_succ]⟩]; exact eb
        have h2 : X5 b % 2 ^ (k + 1) < 2 ^ k + 2 ^ k := by rw [← e2]; exact Nat.mod_lt _ (by omega)
        generalize X5 b % 2 ^ (k + 1) = z at h1 h2
        rcases Nat.lt_or_ge z (2 ^ k) with c | c
        · rw [Nat.mod_eq_of_lt c] at h1; exact .inl h1
        · rw [Nat.mod_eq_sub_mod c, Nat.mod_eq_of_lt (by omega)] at h1
          exact .inr (by omega)
      have hj2 : j = j % 2 ^ k ∨ j = j % 2 ^ k + 2 ^ k := by
        rcases Nat.lt_or_ge j (2 ^ k) with c | c
        · exact .inl (Nat.mod_eq_of_lt c).symm
        · right
          rw [Nat.mod_eq_sub_mod c, Nat.mod_eq_of_lt (by omega)]
          omega
      have hs3 : X5 (b + 2 ^ k) % 2 ^ (k + 1) = (X5 b % 2 ^ (k + 1) + 2 ^ k) % 2 ^ (k + 1) := by
        rw [X5_add, hq]
        have e6 : X5 b + 2 ^ k * (2 * q + 1) + 4 * (X5 b * (2 ^ k * (2 * q + 1))) = X5 b + 2 ^ k + 2 ^ (k + 1) * (q + 2 * (X5 b * (2 * q + 1))) := by
          rw [e2]
          generalize 2 ^ k = p
          generalize X5 b = x
          have a1 : x * (p * (2 * q + 1)) = p * (x * (2 * q + 1)) := Nat.mul_left_comm ..
          rw [a1]
          generalize x * (2 * q + 1) = y
          rw [Nat.mul_add, Nat.mul_left_comm p 2 q, Nat.mul_one, Nat.add_mul, Nat.mul_add, Nat.mul_left_comm p 2 y]
          omega
        rw [e6, Nat.add_mul_mod_self_left, Nat.mod_add_mod]
      rcases hs with hs | hs <;> rcases hj2 with hj2 | hj2
      · exact ⟨b, by omega, by rw [hs]; exact hj2.symm⟩
      · refine ⟨b + 2 ^ k, by omega, ?_⟩
        rw [hs3, hs, ← hj2, Nat.mod_eq_of_lt hj]
      · refine ⟨b + 2 ^ k, by omega, ?_⟩
        rw [hs3, hs, show j % 2 ^ k + 2 ^ k + 2 ^ k = j % 2 ^ k + 2 ^ (k + 1) by omega, Nat.add_mod_right, ← hj2, Nat.mod_eq_of_lt hj]
      · exact ⟨b, by omega, by rw [hs]; exact hj2.symm⟩
/-- the masks that come -/
def Mk (m : Nat) : Prop := m = 7 ∨ m = 31 ∨ m = 127 ∨ m = 511 ∨ m = 2047 ∨ m = 8191 ∨ m = 32767
theorem Mk.pw {m : Nat} (h : Mk m) : ∃ k, m + 1 = 2 ^ k := by
  rcases h with e | e | e | e | e | e | e <;> subst e
  · exact ⟨3, rfl⟩
  · exact ⟨5, rfl⟩
  · exact ⟨7, rfl⟩
  · exact ⟨9, rfl⟩
  · exact ⟨11, rfl⟩
  · exact ⟨13, rfl⟩
  · exact ⟨15, rfl⟩
theorem Mk.odd {m : Nat} (h : Mk m) : m % 2 = 1 := by rcases h with e | e | e | e | e | e | e <;> subst e <;> rfl
theorem Mk.le {m : Nat} (h : Mk m) : m ≤ 32767 := by rcases h with e | e | e | e | e | e | e <;> omega
/-- a round meets each slot -/
theorem Mk.any {m : Nat} (hm : Mk m) {i j : Nat} (hi : i ≤ m) (hj : j ≤ m) : ∃ k, k ≤ m ∧ lcgI m i k = j := by
  obtain ⟨k, hk⟩ := hm.pw
  obtain ⟨⟨q, hq⟩, full⟩ := X5_full k
  obtain ⟨a, ha, ea⟩ := full i (by omega)
  obtain ⟨b, hb, eb⟩ := full j (by omega)
  have at_ : ∀ c, X5 c % 2 ^ k = lcgN m c := fun c => by rw [lcg_X5, hk]
  rw [at_] at ea eb
  rw [← ea]
  by_cases c : a ≤ b
  · refine ⟨b - a, by omega, ?_⟩
    rw [lcgN_add, show a + (b - a) = b by omega]
    exact eb
  · refine ⟨b + 2 ^ k - a, by omega, ?_⟩
    rw [lcgN_add, show a + (b + 2 ^ k - a) = b + 2 ^ k by omega, ← at_, X5_add, hq, ← eb, ← at_]
    have e : X5 b + 2 ^ k * (2 * q + 1) + 4 * (X5 b * (2 ^ k * (2 * q + 1))) = X5 b + 2 ^ k * ((2 * q + 1) + 4 * (X5 b * (2 * q + 1))) := by
      generalize 2 * q + 1 = o
      rw [Nat.mul_add (2 ^ k) o, Nat.mul_left_comm (2 ^ k) 4, Nat.mul_left_comm (2 ^ k) (X5 b)]
      omega
    rw [e, Nat.add_mul_mod_self_left]
theorem Mk.run {m : Nat} (hm : Mk m) (h : Int) {j : Nat} (hj : j ≤ m) : ∃ n, n ≤ m + 12 ∧ runI m (SetTable.bits h) n = j := by
  obtain ⟨k, hk, e⟩ := hm.any (runI_le m (SetTable.bits h) 12) hj
  exact ⟨12 + k, by omega, (runI_tail (bits_lt h) k).trans e⟩
/-- the first slot of the way where p holds comes in time -/
theorem Mk.first {m : Nat} (hm : Mk m) (h : Int) (p : Nat → Prop) {j : Nat} (hj : j ≤ m) (hp : p j) : ∃ K, K < 10 * SetTable.turns m ∧ p (way m h K) ∧ ∀ k, k < K → ¬ p (way m h k) := by
  obtain ⟨n, hn, e⟩ := hm.run h hj
  obtain ⟨k, hk, e2⟩ := run_nth m (SetTable.bits h) n
  have ek : way m h k = j := by
    show (nth m _ k).j = j
    rw [e2]
    exact e
  obtain ⟨K, k1, k2, k3⟩ := st_least (p := fun k => p (way m h k)) k (show p (way m h k) by rw [show way m h k = j from ek]; exact hp)
  exact ⟨K, by unfold SetTable.turns; omega, k2, k3⟩
section
/-! ### a table that goes on as it should -/
/-- the slot that a hash asks first -/
def hm0 (m : Nat) (h : Int) : Nat := SetTable.bits h % (m + 1)
theorem way0 (m : Nat) (h : Int) : way m h 0 = hm0 m h := rfl
theorem hm0_le (m : Nat) (h : Int) : hm0 m h ≤ m := Nat.le_of_lt_succ (Nat.mod_lt _ (Nat.succ_pos _))
def BigM (m : Nat) : Prop := m = 8191 ∨ m = 32767
/-- unlike at 8192 slots -/
def Apart (a b : Int) : Prop := SetTable.bits a % 8192 ≠ SetTable.bits b % 8192
theorem Apart.hm {m : Nat} (hm : BigM m) {a b : Int} (h : Apart a b) : hm0 m a ≠ hm0 m b := by
  unfold hm0
  rcases hm with e | e <;> subst e
  · exact h
  · intro z
    refine h ?_
    have : ∀ x : Nat, x % 32768 % 8192 = x % 8192 := fun x => Nat.mod_mod_of_dvd x ⟨4, rfl⟩
    rw [← this, ← this (SetTable.bits b)]
    exact congrArg (· % 8192) z
structure Reg (t : SetTable) (hs : List Int) : Prop where
  ris : Ris t.place.toList
  dm : t.dummies = #[]
  sz : t.place.size = hs.length
  mok : Mk t.mask
  room : hs.length * 5 < t.mask * 3
  home : BigM t.mask → t.place.toList = hs.map (hm0 t.mask)
variable {t : SetTable} {hs : List Int}
/-- as Reg, but one more may have come -/
structure Reg1 (t : SetTable) (hs : List Int) : Prop where
  ris : Ris t.place.toList
  dm : t.dummies = #[]
  sz : t.place.size = hs.length
  mok : Mk t.mask
  room : hs.length ≤ t.mask
  home : BigM t.mask → t.place.toList = hs.map (hm0 t.mask)
theorem Reg.one (r : Reg t hs) : Reg1 t hs := ⟨r.ris, r.dm, r.sz, r.mok, by have := r.room; omega, r.home⟩
theorem Reg1.fits (r : Reg1 t hs) {n : Nat} (hn : n = hs.length) : t.fits n = true := by
  unfold SetTable.fits SetTable.fill
  rw [r.dm, Bool.and_eq_true, beq_iff_eq, decide_eq_true_eq]
  have h1 := r.sz
  have h2 := r.room
  show t.place.size = n ∧ t.place.size + 0 ≤ t.mask
  omega
theorem Reg1.gw (r : Reg1 t hs) : t.gaveWay = false := by
  unfold SetTable.gaveWay
  rw [r.mok.odd]
  rfl
theorem Reg.big (r : Reg t hs) (h : 1229 ≤ hs.length) : BigM t.mask := by
  have := r.room
  rcases r.mok with e | e | e | e | e | e | e <;> first | exact .inl e | exact .inr e | omega
/-- the free slot that the way comes to -/
theorem Reg.free (r : Reg t hs) (h : Int) : ∃ K, K < 10 * SetTable.turns t.mask ∧ way t.mask h K ∉ t.place.toList ∧ (∀ k, k < K → way t.mask h k ∈ t.place.toList) ∧ (BigM t.mask → (∀ x ∈ hs, Apart x h) → K = 0) := by
  have hl : t.place.toList.length < t.mask + 1 := by
    rw [Array.length_toList, r.sz]
    have := r.room
    omega
  obtain ⟨j, hj, hn⟩ := st_missing t.place.toList (t.mask + 1) hl
  obtain ⟨K, k1, k2, k3⟩ := r.mok.first h (fun j => j ∉ t.place.toList) (Nat.le_of_lt_succ hj) hn
  refine ⟨K, k1, k2, fun k hk => Classical.not_not.mp (k3 k hk), fun hb ha => ?_⟩
  rcases Nat.eq_zero_or_pos K with z | z
  · exact z
  · exfalso
    refine k3 0 z ?_
    show way t.mask h 0 ∉ t.place.toList
    rw [way0, r.home hb]
    intro m
    obtain ⟨x, hx, e⟩ := List.mem_map.mp m
    exact (ha x hx).hm hb e
theorem freeSlot_at (r : Reg t hs) {h : Int} {K : Nat} (hK : K < 10 * SetTable.turns t.mask) (h1 : way t.mask h K ∉ t.place.toList) (h2 : ∀ k, k < K → way t.mask h k ∈ t.place.toList) : t.freeSlot h = some (way t.mask h K, false) := by
  have key : t.probe (fun _ => h + 1) h (t.probeStart h) = some (.empty (way t.mask h K) none) := by
    rcases go_spec t r.ris r.dm (fun _ => h + 1) h (10 * SetTable.turns t.mask) K (t.probeStart h) rfl hK h2 h1 with ⟨_, _, _, _, z, _⟩ | ⟨_, z⟩
    · omega
    · exact z
  unfold SetTable.freeSlot
  rw [key]
  rfl
theorem notAt {xs : Array Nat} {j : Nat} (h : j ∉ xs.toList) : xs[SetTable.below xs j]? ≠ some j := fun z => h (List.mem_of_getElem? (by rw [Array.getElem?_toList]; exact z))
/-- one more, put where it may stand -/
theorem Reg.put (r : Reg t hs) {h : Int} {K : Nat} (h1 : way t.mask h K ∉ t.place.toList) (hK : BigM t.mask → K = 0) : ∃ t' p, t.put (way t.mask h K) = (t', p) ∧ Reg1 t' (hs.take p ++ h :: hs.drop p) ∧ t'.mask = t.mask ∧ t'.led = t.led ∧ t'.plain = t.plain ∧ t'.moves = t.moves := by
  have hp := put_place t (way t.mask h K)
  have hlen : (hs.take (SetTable.below t.place (way t.mask h K)) ++ h :: hs.drop (SetTable.below t.place (way t.mask h K))).length = hs.length + 1 := by
    rw [List.length_append, List.length_cons, List.length_take, List.length_drop]
    omega
  refine ⟨_, _, rfl, ⟨?_, put_dm r.dm _, ?_, r.mok, ?_, fun hb => ?_⟩, rfl, rfl, rfl, rfl⟩
  · exact ris_insert r.ris (notAt h1)
  · show (t.put (way t.mask h K)).1.place.size = _
    rw [hlen, ← Array.length_toList, hp, List.length_append, List.length_cons, List.length_take, List.length_drop, Array.length_toList, r.sz]
    omega
  · rw [hlen]
    have := r.room
    show hs.length + 1 ≤ t.mask
    omega
  · show (t.put (way t.mask h K)).1.place.toList = List.map (hm0 t.mask) _
    rw [hp]
    have e : t.place.toList = hs.map (hm0 t.mask) := r.home hb
    rw [e, List.map_append, List.map_cons, List.map_take, List.map_drop, hK hb, way0]
theorem layNew_at (r : Reg t hs) {es : Array (Int × Value)} (he : es.toList.map (·.1) = hs) (h : Int) (x : Value) (ha : BigM t.mask → ∀ y ∈ hs, Apart y h) :
    ∃ es' t', layNew t es h x = (es', t', false, false) ∧ Reg1 t' (es'.toList.map (·.1)) ∧ t'.mask = t.mask ∧ t'.led = t.led ∧ t'.plain = t.plain ∧ es'.toList.Perm ((h, x) :: es.toList) := by
  obtain ⟨K, k1, k2, k3, k4⟩ := r.free h
  have ef := freeSlot_at r k1 k2 k3
  obtain ⟨t', p, e1, r1, e2, e3, e4, _⟩ := r.put k2 fun hb => k4 hb (ha hb)
  have el : (SetTable.insertAt es p (h, x)).toList = es.toList.take p ++ (h, x) :: es.toList.drop p := SetTable.toList_insertAt _ _ _
  have eh : (SetTable.insertAt es p (h, x)).toList.map (·.1) = hs.take p ++ h :: hs.drop p := by
    rw [el, List.map_append, List.map_cons, List.map_take, List.map_drop, he]
  have hsz : (SetTable.insertAt es p (h, x)).size = (hs.take p ++ h :: hs.drop p).length := by rw [← eh, List.length_map, Array.length_toList]
  have hf := r1.fits hsz
  refine ⟨SetTable.insertAt es p (h, x), t', ?_, by rw [eh]; exact r1, e2, e3, e4, by rw [el]; exact put_perm _ _ _⟩
  unfold layNew
  rw [ef]
  simp only [e1]
  unfold SetTable.orStandIn
  rw [if_pos hf, hf]
  rfl
/-! laid anew -/
structure OwnB (m : Nat) (done : List Int) (owner : Array (Option Nat)) : Prop where
  sz : owner.size = m + 1
  all : ∀ k, k < done.length → ∃ j, j ≤ m ∧ oAt owner j = some k
  ps : ∃ ps : List Nat, ps.length = done.length ∧ ∀ j, j ≤ m → oAt owner j ≠ none → j ∈ ps
  home : BigM m → ∀ j k, j ≤ m → oAt owner j = some k → ∃ h, done[k]? = some h ∧ hm0 m h = j
theorem OwnB.init (m : Nat) : OwnB m [] (Array.replicate (m + 1) none) :=
  ⟨Array.size_replicate, fun k hk => absurd hk (Nat.not_lt_zero _), ⟨[], rfl, fun j hj e => absurd (oAt_init hj) e⟩, fun _ j k hj e => by rw [oAt_init hj] at e; cases e⟩
theorem way_in {m : Nat} (h : Int) (k : Nat) : way m h k ≤ m := by
  have key : ∀ (k : Nat) (p : SetTable.Probe), p.j + p.more ≤ m → (nth m p k).j + (nth m p k).more ≤ m := fun k p => nth_in k p
  have h0 := runEnd_bd (m := m) (i := hm0 m h) (hm0_le m h)
  have z := key k (runAt m (SetTable.bits h % (m + 1)) (SetTable.bits h)) (by
    show hm0 m h + (SetTable.runEnd m (hm0 m h) - hm0 m h) ≤ m
    omega)
  show (nth m _ k).j ≤ m
  omega
theorem OwnB.step {m : Nat} (hm : Mk m) {done : List Int} {owner : Array (Option Nat)} (W : OwnB m done owner) (hl : done.length ≤ m) (h : Int) (ha : BigM m → ∀ y ∈ done, Apart y h) :
    ∃ j, SetTable.layClean.free m owner (SetTable.turns m) (SetTable.bits h % (m + 1)) (SetTable.bits h) = some j ∧ OwnB m (done ++ [h]) (owner.setIfInBounds j (some done.length)) := by
  obtain ⟨ps, hps, hin⟩ := W.ps
  obtain ⟨j0, h0, hn0⟩ := st_missing ps (m + 1) (by omega)
  have free0 : oAt owner j0 = none := by
    cases z : oAt owner j0 with
    | none => rfl
    | some k => exact absurd (hin j0 (Nat.le_of_lt_succ h0) (by rw [z]; exact fun e => nomatch e)) hn0
  obtain ⟨n, hn, e⟩ := hm.run h (Nat.le_of_lt_succ h0)
  have eo : way m h (off m (SetTable.bits h % (m + 1)) (SetTable.bits h) n) = j0 := by
    show (nth m _ _).j = j0
    rw [nth_off, itL_run]
    exact e
  obtain ⟨K, k1, k2, k3⟩ := st_least (p := fun k => oAt owner (way m h k) = none) _ (show oAt owner (way m h (off m (SetTable.bits h % (m + 1)) (SetTable.bits h) n)) = none by rw [show way m h _ = j0 from eo]; exact free0)
  have hf : SetTable.layClean.free m owner (SetTable.turns m) (SetTable.bits h % (m + 1)) (SetTable.bits h) = some (way m h K) := by
    refine free_spec m owner _ n _ _ K (by unfold SetTable.turns; omega) k1 (fun k hk => ?_) ?_
    · have q := k3 k hk
      cases z : oAt owner (nth m (runAt m (SetTable.bits h % (m + 1)) (SetTable.bits h)) k).j with
      | none => exact absurd z q
      | some _ => rfl
    · have q : oAt owner (nth m (runAt m (SetTable.bits h % (m + 1)) (SetTable.bits h)) K).j = none := k2
      rw [q]
      rfl
  have hjm : way m h K ≤ m := way_in h K
  have hjs : way m h K < owner.size := by rw [W.sz]; omega
  have hself := oAt_set_self (some done.length) hjs
  refine ⟨way m h K, hf, by rw [Array.size_setIfInBounds]; exact W.sz, fun k hk => ?_, ⟨way m h K :: ps, by simp [hps], fun j hj z => ?_⟩, fun hb j k hj z => ?_⟩
  · rw [List.length_append, List.length_singleton] at hk
    by_cases c : k < done.length
    · obtain ⟨j, hj, ej⟩ := W.all k c
      exact ⟨j, hj, by rw [oAt_set_ne _ fun z => by rw [z, k2] at ej; cases ej]; exact ej⟩
    · exact ⟨_, hjm, by rw [hself, show k = done.length by omega]⟩
  · by_cases c : j = way m h K
    · exact c ▸ List.mem_cons_self
    · rw [oAt_set_ne _ c] at z
      exact List.mem_cons_of_mem _ (hin j hj z)
  · by_cases c : j = way m h K
    · rw [c, hself] at z
      cases z
      refine ⟨h, by simp, ?_⟩
      rw [c]
      have K0 : K = 0 := by
        rcases Nat.eq_zero_or_pos K with q | q
        · exact q
        · exfalso
          have z0 := k3 0 q
          cases z1 : oAt owner (way m h 0) with
          | none => exact z0 z1
          | some k' =>
            obtain ⟨h', e1, e2⟩ := W.home hb _ k' (hm0_le m h) z1
            exact (ha hb h' (List.mem_of_getElem? e1)).hm hb e2
      rw [K0]
      rfl
    · rw [oAt_set_ne _ c] at z
      obtain ⟨h', e1, e2⟩ := W.home hb j k hj z
      exact ⟨h', by rw [List.getElem?_append_left (List.getElem?_eq_some_iff.mp e1).1]; exact e1, e2⟩
theorem foldB {m : Nat} (hm : Mk m) : ∀ (rest done : List Int) (owner : Array (Option Nat)), OwnB m done owner → done.length + rest.length ≤ m → (BigM m → (done ++ rest).Pairwise Apart) →
    ∃ owner', rest.foldl (stepF m) (some (owner, done.length)) = some (owner', (done ++ rest).length) ∧ OwnB m (done ++ rest) owner'
  | [], done, owner, W, _, _ => ⟨owner, by simp, by simpa using W⟩
  | h :: rest, done, owner, W, hl, hp => by
    rw [List.length_cons] at hl
    obtain ⟨j, e, W'⟩ := W.step hm (by omega) h fun hb y hy => by
      have := (List.pairwise_append.mp (hp hb)).2.2
      exact this y hy h (by simp)
    have e1 : (done ++ [h]).length = done.length + 1 := by simp
    obtain ⟨owner', f, W2⟩ := foldB hm rest (done ++ [h]) _ W' (by rw [e1]; omega) fun hb => by simpa using hp hb
    rw [e1] at f
    refine ⟨owner', ?_, by simpa using W2⟩
    rw [List.foldl_cons, stepF_some e]
    simpa using f
theorem layB {m : Nat} (hm : Mk m) {hs : Array Int} (hn : hs.size ≤ m) (hp : BigM m → hs.toList.Pairwise Apart) : ∃ owner, SetTable.layClean m hs = some owner ∧ OwnB m hs.toList owner := by
  obtain ⟨owner, f, W⟩ := foldB hm hs.toList [] _ (OwnB.init m) (by simpa using hn) (by simpa using hp)
  refine ⟨owner, ?_, by simpa using W⟩
  rw [layClean_eq]
  have f' : hs.toList.foldl (stepF m) (some (Array.replicate (m + 1) none, 0)) = _ := f
  rw [f']
  rfl
theorem relaidB (t : SetTable) {hs : Array Int} {wanted M : Nat} (hw : SetTable.sizeAbove wanted - 1 = M) (hM : Mk M) (hn : hs.size * 5 < M * 3) (hp : BigM M → hs.toList.Pairwise Apart) :
    ∃ t' order, t.relaid hs wanted = some (t', order) ∧ order.toList.Perm (List.range hs.size) ∧ Reg t' (order.toList.map fun i => hs.getD i 0) ∧ t'.mask = M ∧ t'.led = t.led ∧ t'.plain = t.plain := by
  obtain ⟨owner, e, W⟩ := layB hM (hs := hs) (by omega) hp
  have hr : t.relaid hs wanted = some (tabOf t M owner, ((liveOf M owner).map (·.2)).toArray) := by
    rw [relaid_eq, hw, e]
    rfl
  have r1 : Ris ((liveOf M owner).map (·.1)) := (relaid_ris hr).1
  have nd : ((liveOf M owner).map (·.1)).Nodup := List.Pairwise.imp (fun h => Nat.ne_of_lt h) r1
  have hlen : (liveOf M owner).length = hs.size := by
    obtain ⟨ps, p1, p2⟩ := W.ps
    have a := nat_nodup_len ((liveOf M owner).map (·.1)) ps nd fun x hx => by
      obtain ⟨⟨y, k⟩, hq, rfl⟩ := List.mem_map.mp hx
      obtain ⟨b1, b2⟩ := (mem_live W.sz).1 hq
      exact p2 y b1 (by rw [b2]; exact fun z => nomatch z)
    have b := nat_nodup_len (List.range hs.size) ((liveOf M owner).map (·.2)) List.nodup_range fun k hk => by
      obtain ⟨j, b1, b2⟩ := W.all k (by rw [Array.length_toList]; exact List.mem_range.mp hk)
      exact List.mem_map.mpr ⟨(j, k), (mem_live W.sz).2 ⟨b1, b2⟩, rfl⟩
    rw [List.length_map, p1] at a
    rw [List.length_map, List.length_range] at b
    have hz : hs.toList.length = hs.size := rfl
    omega
  have pm : ((liveOf M owner).map (·.2)).Perm (List.range hs.size) := by
    refine perm_range hs.size _ (by rw [List.length_map]; exact hlen) fun k hk => ?_
    obtain ⟨j, b1, b2⟩ := W.all k (by rw [Array.length_toList]; exact hk)
    exact List.mem_map.mpr ⟨(j, k), (mem_live W.sz).2 ⟨b1, b2⟩, rfl⟩
  refine ⟨_, _, hr, by simpa using pm, ⟨r1, rfl, ?_, hM, ?_, fun hb => ?_⟩, rfl, rfl, rfl⟩
  · show ((liveOf M owner).map (·.1)).toArray.size = _
    simp
  · simp only [List.length_map, hlen]
    exact hn
  · show (liveOf M owner).map (·.1) = List.map (hm0 M) (((liveOf M owner).map (·.2)).map fun i => hs.getD i 0)
    rw [List.map_map, List.map_map]
    refine List.map_congr_left fun q hq => ?_
    obtain ⟨j, k⟩ := q
    obtain ⟨b1, b2⟩ := (mem_live W.sz).1 hq
    obtain ⟨h, e1, e2⟩ := W.home hb j k b1 b2
    show j = hm0 M (hs.getD k 0)
    rw [Array.getD_eq_getD_getElem?, ← Array.getElem?_toList, e1]
    exact e2.symm
end
section
/-! ### sets of many ints: adding -/
variable {t : SetTable}
theorem sizeUp {m n : Nat} (hm : Mk m) (h1 : n * 5 < m * 3) (h2 : (n + 1) * 5 ≥ m * 3) (hn : n < 8192) : ∃ M, SetTable.sizeAbove (SetTable.grown (n + 1)) - 1 = M ∧ Mk M ∧ (n + 1) * 5 < M * 3 ∧ SetTable.sizeAbove (SetTable.grown (n + 1)) ≤ 32768 ∧ (BigM M → 1229 ≤ n + 1) := by
  rcases hm with e | e | e | e | e | e | e <;> subst e
  · obtain rfl : n = 4 := by omega
    exact ⟨31, by decide +kernel, .inr (.inl rfl), by omega, by decide +kernel, fun h => by rcases h with h | h <;> omega⟩
  · obtain rfl : n = 18 := by omega
    exact ⟨127, by decide +kernel, .inr (.inr (.inl rfl)), by omega, by decide +kernel, fun h => by rcases h with h | h <;> omega⟩
  · obtain rfl : n = 76 := by omega
    exact ⟨511, by decide +kernel, .inr (.inr (.inr (.inl rfl))), by omega, by decide +kernel, fun h => by rcases h with h | h <;> omega⟩
  · obtain rfl : n = 306 := by omega
    exact ⟨2047, by decide +kernel, .inr (.inr (.inr (.inr (.inl rfl)))), by omega, by decide +kernel, fun h => by rcases h with h | h <;> omega⟩
  · obtain rfl : n = 1228 := by omega
    exact ⟨8191, by decide +kernel, .inr (.inr (.inr (.inr (.inr (.inl rfl))))), by omega, by decide +kernel, fun h => by omega⟩
  · obtain rfl : n = 4914 := by omega
    exact ⟨32767, by decide +kernel, .inr (.inr (.inr (.inr (.inr (.inr rfl))))), by omega, by decide +kernel, fun h => by omega⟩
  · omega
theorem order_es (es : Array (Int × Value)) (order : Array Nat) (hp : order.toList.Perm (List.range es.size)) : (order.filterMap (es[·]?)).toList = order.toList.map (fun i => es.getD i (0, .none)) ∧ ((order.filterMap (es[·]?)).toList.map (·.1)) = order.toList.map (fun i => (es.map (·.1)).getD i 0) ∧ (order.filterMap (es[·]?)).toList.Perm es.toList := by
  have hlt : ∀ i ∈ order.toList, i < es.size := fun i hi => List.mem_range.mp (hp.mem_iff.mp hi)
  have key : ∀ l : List Nat, (∀ i ∈ l, i < es.size) → l.filterMap (fun i => es[i]?) = l.map (fun i => es.getD i (0, .none)) := by
    intro l
    induction l with
    | nil => intro _; rfl
    | cons i l ih =>
      intro h
      have hi := h i (by simp)
      rw [List.filterMap_cons_some (Array.getElem?_eq_getElem hi), ih fun j hj => h j (by simp [hj]), List.map_cons]
      congr 1
      rw [Array.getD_eq_getD_getElem?, Array.getElem?_eq_getElem hi]
      rfl
  have e1 : (order.filterMap (es[·]?)).toList = order.toList.map (fun i => es.getD i (0, .none)) := by
    rw [← key order.toList hlt]
    first | (rw [Array.toList_filterMap]; done) | simp
  refine ⟨e1, ?_, ?_⟩
  · rw [e1, List.map_map]
    refine List.map_congr_left fun i hi => ?_
    have h := hlt i hi
    simp only [Function.comp, Array.getD_eq_getD_getElem?, Array.getElem?_eq_getElem h, Array.getElem?_map]
    rfl
  · rw [e1]
    refine (hp.map _).trans (.of_eq ?_)
    refine List.ext_getElem? fun i => ?_
    rw [List.getElem?_map]
    by_cases h : i < es.size
    · rw [List.getElem?_range h, Array.getElem?_toList, Array.getElem?_eq_getElem h]
      simp [Array.getD_eq_getD_getElem?, h]
    · rw [List.getElem?_eq_none (by simpa using h), List.getElem?_eq_none (by simpa using h)]
      rfl
/-- laid anew, larger -/
theorem laidUp {es : Array (Int × Value)} {n : Nat} (r : Reg1 t (es.toList.map (·.1))) (hn : es.size = n + 1) (h1 : n * 5 < t.mask * 3) (h2 : (n + 1) * 5 ≥ t.mask * 3) (hb : n < 8192) (ap : (es.toList.map (·.1)).Pairwise Apart) :
    ∃ t' order, t.relaid (es.map (·.1)) (SetTable.grown es.size) = some (t', order) ∧ order.toList.Perm (List.range es.size) ∧ Reg t' ((order.filterMap (es[·]?)).toList.map (·.1)) ∧ t'.led = t.led ∧ t'.plain = t.plain ∧ (order.filterMap (es[·]?)).toList.Perm es.toList ∧ (order.filterMap (es[·]?)).size = es.size ∧ SetTable.sizeAbove (SetTable.grown es.size) ≤ 32768 := by
  obtain ⟨M, m1, m2, m3, m4, _⟩ := sizeUp r.mok h1 h2 hb
  rw [← hn] at m1 m3 m4
  have ea : (es.map (·.1)).toList = es.toList.map (·.1) := by simp
  obtain ⟨t', order, e, p, q, _, q1, q2⟩ := relaidB t (hs := es.map (·.1)) m1 m2 (by rw [Array.size_map]; exact m3) (fun _ => by rw [ea]; exact ap)
  rw [Array.size_map] at p
  obtain ⟨o1, o2, o3⟩ := order_es es order p
  refine ⟨t', order, e, p, by rw [o2]; exact q, q1, q2, o3, ?_, m4⟩
  have := o3.length_eq
  rw [Array.length_toList, Array.length_toList] at this
  exact this
theorem relayAll_at {es : Array (Int × Value)} {n : Nat} (r : Reg1 t (es.toList.map (·.1))) (hn : es.size = n + 1) (h1 : n * 5 < t.mask * 3) (h2 : (n + 1) * 5 ≥ t.mask * 3) (hb : n < 8192) (ap : (es.toList.map (·.1)).Pairwise Apart) :
    ∃ es' t', relayAll t es (SetTable.grown es.size) = (es', t', false) ∧ Reg t' (es'.toList.map (·.1)) ∧ t'.led = t.led ∧ t'.plain = t.plain ∧ es'.toList.Perm es.toList := by
  obtain ⟨t', order, e, p, q, q1, q2, q3, q4, _⟩ := laidUp r hn h1 h2 hb ap
  refine ⟨_, t', ?_, q, q1, q2, q3⟩
  unfold relayAll
  rw [e]
  have c : coversAll order es.size = true := List.isPerm_iff.mpr p
  have f : t'.fits (order.filterMap (es[·]?)).size = true := q.one.fits (by rw [List.length_map, Array.length_toList])
  simp only [c, f]
  rfl
theorem tooFull_iff {hs : List Int} (r : Reg1 t hs) : t.tooFull = true ↔ hs.length * 5 ≥ t.mask * 3 := by
  unfold SetTable.tooFull SetTable.fill
  rw [r.dm, decide_eq_true_eq, r.sz]
  simp
theorem Reg1.reg {hs : List Int} (r : Reg1 t hs) (h : ¬ t.tooFull = true) : Reg t hs := ⟨r.ris, r.dm, r.sz, r.mok, by rw [tooFull_iff r] at h; omega, r.home⟩
/-- the set at a holds U's members (those that S tells), its table goes on as it should -/
structure SetB (w : World) (h : Heap) (a : Addr) (S : Int → Bool) (n : Nat) : Prop where
  ex : ∃ o es ep t, h.get? a = some o ∧ o.ExactSet ∧ o.data = .set es ep t ∧ (∀ e ∈ es.toList, GoodE e) ∧ (es.toList.map L2.keyOf).Nodup ∧ (∀ k, S k = true ↔ k ∈ es.toList.map L2.keyOf) ∧
    es.size = n ∧ n ≤ 8192 ∧ Reg t (es.toList.map (·.1)) ∧ (es.toList.map (·.1)).Pairwise Apart ∧ t.plain = true ∧ (w.params.followText "set-order" = true ∨ t.led = true)
theorem SetB.at {w : World} {h h' : Heap} {a : Addr} {S : Int → Bool} {n : Nat} (R : SetB w h a S n) (k : ∀ o, h.get? a = some o → h'.get? a = some o) : SetB w h' a S n := by
  obtain ⟨o, es, ep, t, ho, r⟩ := R.ex
  exact ⟨o, es, ep, t, k o ho, r⟩
theorem SetB.congr {w : World} {h : Heap} {a : Addr} {S S' : Int → Bool} {n : Nat} (R : SetB w h a S n) (e : ∀ k, S' k = S k) : SetB w h a S' n := by
  have q : S' = S := funext e
  rw [q]; exact R
section
variable {P : Program} {w : World} {A : Around} {E : Value → Shared → Prop} {s : Shared} {a : Addr} {S : Int → Bool} {n : Nat}
/-- stored, and laid anew if need be -/
theorem addEnd {o : Obj} {es : Array (Int × Value)} {ep : Nat} {t : SetTable} (ho : s.heap.get? a = some o) (hex : o.ExactSet) (hd : o.data = .set es ep t)
    {es1 : Array (Int × Value)} {t1 : SetTable} {S' : Int → Bool} (g1 : ∀ e ∈ es1.toList, GoodE e) (nd1 : (es1.toList.map L2.keyOf).Nodup) (m1 : ∀ k, S' k = true ↔ k ∈ es1.toList.map L2.keyOf)
    (r1 : Reg1 t1 (es1.toList.map (·.1))) (hn : es1.size = n + 1) (h1 : n * 5 < t1.mask * 3) (hb : n < 8192) (ap : (es1.toList.map (·.1)).Pairwise Apart) (pl : t1.plain = true) (hl : w.params.followText "set-order" = true ∨ t1.led = true) :
    (∀ h', Heap.SameBut a s.heap h' → h'.get? a = some { o with data := .set es1 (ep + 1) t1 } → ¬ t1.tooFull = true → SetB w h' a S' (n + 1)) ∧
    (t1.tooFull = true → ∃ es2 t2, relayAll t1 es1 (SetTable.grown es1.size) = (es2, t2, false) ∧ ∀ h' e, Heap.SameBut a s.heap h' → h'.get? a = some { o with data := .set es2 e t2 } → SetB w h' a S' (n + 1)) := by
  have hlen : (es1.toList.map (·.1)).length = n + 1 := by rw [List.length_map, Array.length_toList, hn]
  refine ⟨fun h' sb at' nf => ⟨_, es1, _, t1, at', hex, rfl, g1, nd1, m1, hn, hb, r1.reg nf, ap, pl, hl⟩, fun tf => ?_⟩
  have h2 := (tooFull_iff r1).mp tf
  rw [hlen] at h2
  obtain ⟨es2, t2, e, r2, l2, p2, pm⟩ := relayAll_at r1 hn h1 h2 hb ap
  refine ⟨es2, t2, e, fun h' ee sb at' => ⟨_, es2, _, t2, at', hex, rfl, fun x hx => g1 x (pm.mem_iff.mp hx), (pm.map L2.keyOf).nodup_iff.mpr nd1, fun k => (m1 k).trans (pm.map L2.keyOf).mem_iff.symm, ?_, hb, r2, ?_, by rw [p2]; exact pl, by rw [l2]; exact hl⟩⟩
  · have := pm.length_eq
    rw [Array.length_toList, Array.length_toList] at this
    omega
  · exact ((pm.map (·.1)).pairwise_iff (R := Apart) fun h => Ne.symm h).mpr ap
end
end
section
variable {P : Program} {w : World} {A : Around} {E : Value → Shared → Prop} {s : Shared} {a : Addr} {S : Int → Bool} {n : Nat}
theorem sz_line {m : Nat} (h : m ≤ 8192) : m ≤ sizeLine := by rw [sizeLine_eq]; omega
/-- a search among ints shows nothing -/
theorem seenI {k : Int} {tk : Tok} {ys : List Value} {Q : Bool → Shared → Prop} (hy : ∀ y ∈ ys, ∃ i t, y = Value.int i t) (h : Q false s) : wpAny (model P w) A (searchCouldBeSeen (.int k tk) ys) Q E s := by
  unfold searchCouldBeSeen
  refine wpAny_bind ?_
  refine wpAny_forIn_list _ (fun rest r s' => r.1 = none ∧ s' = s ∧ ∀ y ∈ rest, ∃ i t, y = Value.int i t) _ ?_ ?_ _ _ ⟨rfl, rfl, hy⟩
  · rintro v rest r s' ⟨hr, rfl, all⟩
    obtain ⟨i, t, rfl⟩ := all v List.mem_cons_self
    exact wpAny_pure ⟨rfl, rfl, fun u hu => all u (List.mem_cons_of_mem _ hu)⟩
  · rintro ⟨r1, r2⟩ s' ⟨hr, rfl, _⟩
    simp only at hr
    subst hr
    exact wpAny_pure h
theorem addB {k : Int} {tk : Tok} {Q : Bool → Shared → Prop} (R : SetB w s.heap a S n) (room : n < 8192) (far : ∀ j, S j = true → j ≠ k → Apart (hashInt j) (hashInt k))
    (hQ : ∀ h', Heap.SameBut a s.heap h' → SetB w h' a (fun j => S j || decide (j = k)) (if S k = true then n else n + 1) → Q (!S k) { s with heap := h' }) :
    wpAny (model P w) A (setAddHashed a (.int k tk) ((intKind P w).hash k)) Q E s := by
  obtain ⟨o, es, ep, t, ho, hex, hd, g, nd, hm, hn, hb8, r, ap0, pl, hl⟩ := R.ex
  have hf : t.fits es.size = true := r.one.fits (by rw [List.length_map, Array.length_toList])
  have hkey : (intKind P w).is k (.int k tk) = true := intKind_is P w k tk
  have hsc : (Value.int k tk).scannable = true := rfl
  have hel : ElemsOf (intKind P w) es.toList := good_elems g
  have hlen : (es.toList.map (·.1)).length = n := by rw [List.length_map, Array.length_toList, hn]
  have hroom := r.room
  rw [hlen] at hroom
  -- it is there
  have same : S k = true → Q false s := fun hS => by
    have eS : ∀ j, (S j || decide (j = k)) = S j := fun j => by
      by_cases c : j = k
      · subst c
        simp [hS]
      · simp [c]
    have q := hQ s.heap (Heap.SameBut.refl a s.heap) (by rw [if_pos hS]; exact R.congr eS)
    rw [hS] at q
    exact q
  -- it is new
  have away : S k = false → ∀ y ∈ es.toList.map (·.1), Apart y (hashInt k) := fun hS y hy => by
    obtain ⟨e, he, rfl⟩ := List.mem_map.mp hy
    obtain ⟨k0, tk0, e1, e2⟩ := g e he
    have hk0 : L2.keyOf e = k0 := by unfold L2.keyOf; rw [e1]
    rw [e2]
    refine far k0 ((hm k0).2 (List.mem_map.mpr ⟨e, he, hk0⟩)) fun z => ?_
    have := (hm k0).2 (List.mem_map.mpr ⟨e, he, hk0⟩)
    rw [z, hS] at this
    cases this
  have more : ∀ {es1 : Array (Int × Value)}, S k = false → es1.toList.Perm ((hashInt k, Value.int k tk) :: es.toList) → (∀ e ∈ es1.toList, GoodE e) ∧ (es1.toList.map L2.keyOf).Nodup ∧ (∀ j, (S j || decide (j = k)) = true ↔ j ∈ es1.toList.map L2.keyOf) ∧ es1.size = n + 1 ∧ (es1.toList.map (·.1)).Pairwise Apart := fun {es1} hS pc => by
    have hnk : k ∉ es.toList.map L2.keyOf := fun z => by rw [(hm k).2 z] at hS; cases hS
    have pk : (es1.toList.map L2.keyOf).Perm (k :: es.toList.map L2.keyOf) := pc.map L2.keyOf
    refine ⟨fun e he => ?_, pk.nodup_iff.mpr (List.nodup_cons.mpr ⟨hnk, nd⟩), fun i => ?_, ?_, ?_⟩
    · rcases List.mem_cons.mp (pc.mem_iff.mp he) with z | z
      · rw [z]; exact ⟨k, tk, rfl, rfl⟩
      · exact g e z
    · rw [Bool.or_eq_true, decide_eq_true_eq, hm i, pk.mem_iff, List.mem_cons]
      exact Or.comm
    · have := pc.length_eq
      rw [List.length_cons, Array.length_toList, Array.length_toList] at this
      omega
    · have z : List.Pairwise Apart (hashInt k :: es.toList.map (·.1)) := List.pairwise_cons.mpr ⟨fun y hy h => away hS y hy h.symm, ap0⟩
      exact ((pc.map (fun e : Int × Value => e.1)).pairwise_iff (R := Apart) fun h => Ne.symm h).mpr z
  have fin : S k = false → ∀ h', Heap.SameBut a s.heap h' → SetB w h' a (fun j => S j || decide (j = k)) (n + 1) → Q true { s with heap := h' } := fun hS h' sb R' => by
    have q := hQ h' sb
    rw [hS] at q
    exact q R'
  unfold setAddHashed
  refine wpAny_holding ?_
  rw [show (100000 : Nat) = 99999 + 1 from rfl, setAddHashedIn_succ]
  refine wpAny_bind (wpAny_setState_of ho hd hf ?_)
  dsimp only
  by_cases small : es.size < scanBound
  · rw [byScan_of hsc small hel]
    simp only [↓reduceIte]
    unfold setAddByScan
    refine wpAny_bind ?_
    refine wpAny_bind (wpAny_rule ?_)
    refine wpAny_bind (wpAny_setScan_of hkey ho hd hf hel ?_)
    cases hfi : List.findIdx? (fun e => (intKind P w).is k e.2) es.toList with
    | some j =>
      dsimp only
      obtain ⟨hj, pj, _⟩ := List.findIdx?_eq_some_iff_getElem.mp hfi
      exact wpAny_pure (wpAny_pure (same ((hm k).2 ((good_mem (P := P) (w := w) g k).2 ⟨es.toList[j], List.getElem_mem hj, pj⟩))))
    | none =>
      dsimp only
      have hS : S k = false := by
        cases q : S k with
        | false => rfl
        | true =>
          obtain ⟨e, he, q2⟩ := (good_mem (P := P) (w := w) g k).1 ((hm k).1 q)
          have c := List.findIdx?_eq_none_iff.mp hfi e he
          rw [q2] at c
          cases c
      obtain ⟨es1, t1, eL, r1, em, el, epl, pm⟩ := layNew_at r rfl (hashInt k) (.int k tk) fun _ => away hS
      obtain ⟨g1, nd1, m1, n1, ap1⟩ := more hS pm
      have eL' : layNew t es ((intKind P w).hash k) (.int k tk) = (es1, t1, false, false) := eL
      rw [eL']
      dsimp only
      refine wpAny_bind (wpAny_pure ?_)
      have pl1 : t1.plain = true := by rw [epl]; exact pl
      refine wp_if_pos pl1 (wpAny_bind ?_)
      rw [hashBy_int]
      refine wpAny_pure ?_
      simp only [if_true]
      obtain ⟨f1, f2⟩ := addEnd (s := s) (w := w) (S' := fun j => S j || decide (j = k)) ho hex hd g1 nd1 m1 r1 n1 (by rw [em]; exact hroom) room ap1 pl1 (hl.imp id fun z => by rw [el]; exact z)
      refine wpAny_bind (wpAny_storeSet_of ho hd ?_ (sz_line (by omega)))
      have ho1 := store_at (es' := es1) (t' := t1) ho hd
      have sb1 := Heap.SameBut.update s.heap a (Obj.putSet es1 t1)
      by_cases tf : t1.tooFull = true
      · refine wp_if_pos (by rw [tf]; rfl) ?_
        obtain ⟨es2, t2, e2, f3⟩ := f2 tf
        rw [e2]
        dsimp only
        refine wpAny_bind (wpAny_pure ?_)
        have ho2 := store_at (es' := es2) (t' := t2) ho1 rfl
        have sb2 := sb1.trans (Heap.SameBut.update (s.heap.update a (Obj.putSet es1 t1)) a (Obj.putSet es2 t2))
        have R2 := f3 _ _ sb2 ho2
        have hz2 : es2.size ≤ sizeLine := sz_line (by
          obtain ⟨_, es3, _, _, at3, _, d3, _, _, _, n3, _⟩ := R2.ex
          rw [ho2] at at3
          cases at3
          cases d3
          omega)
        refine wpAny_bind (wpAny_storeSet_of ho1 rfl ?_ hz2)
        exact wpAny_pure (wpAny_pure (fin hS _ sb2 R2))
      · refine wp_if_neg (by simp [tf]) ?_
        try refine wpAny_bind (wpAny_pure ?_)
        exact wpAny_pure (wpAny_pure (fin hS _ sb1 (f1 _ sb1 ho1 tf)))
  · have big : BigM t.mask := r.big (by rw [hlen, ← hn]; have : scanBound = 4096 := rfl; omega)
    have nb : ¬ byScan (.int k tk) es = true := by
      unfold byScan
      rw [decide_eq_false small]
      simp
    refine wp_if_neg nb ?_
    try refine wpAny_bind (wpAny_pure ?_)
    obtain ⟨K, k1, k2, k3, k4⟩ := r.free (hashInt k)
    have hash_at : ∀ i e, es[i]? = some e → (fun (i : Nat) => (es[i]?.map (fun (e : Int × Value) => e.1)).getD 0) i = e.1 := fun i e he => by
      show (es[i]?.map (·.1)).getD 0 = e.1
      rw [he]
      rfl
    have spec := go_spec t r.ris r.dm (fun (i : Nat) => (es[i]?.map (fun (e : Int × Value) => e.1)).getD 0) (hashInt k) (10 * SetTable.turns t.mask) K (t.probeStart (hashInt k)) rfl k1 k3 k2
    have pl0 := r.home big
    -- who has this hash is k
    have only : ∀ i j, t.place.toList[i]? = some j → (fun (i : Nat) => (es[i]?.map (fun (e : Int × Value) => e.1)).getD 0) i = hashInt k → ∃ tk0, es[i]? = some (hashInt k, Value.int k tk0) ∧ S k = true := fun i j hij hh => by
      have hi : i < es.size := by
        have h1 := (List.getElem?_eq_some_iff.mp hij).1
        rw [pl0, List.length_map, List.length_map, Array.length_toList] at h1
        exact h1
      have he : es[i]? = some es[i] := Array.getElem?_eq_getElem hi
      rw [hash_at i _ he] at hh
      generalize es[i] = e at he hh
      have hm' : e ∈ es.toList := List.mem_of_getElem? (by rw [Array.getElem?_toList]; exact he)
      obtain ⟨k0, tk0, e1, e2⟩ := g e hm'
      have hk0 : L2.keyOf e = k0 := by unfold L2.keyOf; rw [e1]
      have hS0 : S k0 = true := (hm k0).2 (List.mem_map.mpr ⟨e, hm', hk0⟩)
      have ek : k0 = k := by
        rcases Classical.em (k0 = k) with c | c
        · exact c
        · exact absurd (congrArg (fun h => SetTable.bits h % 8192) (e2.symm.trans hh)) (far k0 hS0 c)
      subst ek
      refine ⟨tk0, ?_, hS0⟩
      rw [he]
      obtain ⟨x1, x2⟩ := e
      simp only at e1 e2
      rw [e1, e2]
    have stt : ∀ (s0 : Shared) (Q0 : (Array (Int × Value) × Nat × SetTable) → Shared → Prop), s0.heap = s.heap → Q0 (es, ep, t) s0 → wpAny (model P w) A (setState a) Q0 E s0 := fun s0 Q0 e q => wpAny_setState_of (by rw [e]; exact ho) hd hf q
    unfold setSearch
    rw [show (100000 : Nat) = 99999 + 1 from rfl, setSearchFrom_succ]
    refine wpAny_bind ?_
    refine wpAny_bind (stt _ _ rfl ?_)
    dsimp only
    refine wp_if_neg (by rw [r.one.gw]; exact Bool.false_ne_true) ?_
    try refine wpAny_bind (wpAny_pure ?_)
    rcases spec with ⟨q, i, hq, hi, hh, hno, hpr⟩ | ⟨hno, hpr⟩
    · have hpr' : t.probe (fun (i : Nat) => (es[i]?.map (fun (e : Int × Value) => e.1)).getD 0) (hashInt k) (Option.getD none (t.probeStart (hashInt k))) = some (.candidate _ i _) := hpr
      have hpr2 : t.probe (fun (i : Nat) => (es[i]?.map (fun (e : Int × Value) => e.1)).getD 0) ((intKind P w).hash k) (Option.getD none (t.probeStart ((intKind P w).hash k))) = some (.candidate _ i _) := hpr'
      rw [hpr2]
      dsimp only
      obtain ⟨tk0, he, hS⟩ := only i _ hi hh
      have rest : ∀ j nx, wpAny (model P w) A (searchRest a (.int k tk) (hashInt k) true 99999 es t j i nx) (fun r s' => r = .there none ∧ s' = s) E s := fun j nx => by
        unfold searchRest
        rw [he]
        dsimp only
        refine wpAny_bind (wpAny_holding ((intKind P w).eqBool (a := k) (b := k) (intKind_is P w k tk0) (intKind_is P w k tk) ?_))
        refine wpAny_bind (stt _ _ rfl ?_)
        dsimp only
        refine wp_if_pos (by simp) ?_
        exact wpAny_pure ⟨rfl, rfl⟩
      have done : ∀ (Q' : SetFound → Shared → Prop) j nx, Q' (.there none) s → wpAny (model P w) A (searchRest a (.int k tk) ((intKind P w).hash k) true 99999 es t j i nx) Q' E s := fun Q' j nx q' => thn (rest j nx) fun r s' e => by
        obtain ⟨e1, e2⟩ := e
        rw [e1, e2]
        exact q'
      by_cases hled : t.led = true
      · refine wp_if_neg (by simp [hled]) ?_
        try refine wpAny_bind (wpAny_pure ?_)
        exact done _ _ _ (wpAny_pure (same hS))
      · refine wp_if_pos (by simp [hled]) ?_
        refine wpAny_bind (seenI (fun y hy => ?_) ?_)
        · obtain ⟨e, he2, ee⟩ := List.mem_map.mp hy
          have he3 : e ∈ es ∧ e.1 = (intKind P w).hash k := by simpa using he2
          obtain ⟨k0, tk1, e1, _⟩ := g e (by simpa using he3.1)
          exact ⟨k0, tk1, by rw [← ee, e1]⟩
        · refine wp_if_neg (by decide) ?_
          try refine wpAny_bind (wpAny_pure ?_)
          exact done _ _ _ (wpAny_pure (same hS))
    · have hpr2 : t.probe (fun (i : Nat) => (es[i]?.map (fun (e : Int × Value) => e.1)).getD 0) ((intKind P w).hash k) (Option.getD none (t.probeStart ((intKind P w).hash k))) = some (.empty (way t.mask (hashInt k) K) none) := hpr
      rw [hpr2]
      dsimp only
      refine wpAny_pure ?_
      dsimp only
      have hS : S k = false := by
        cases q : S k with
        | false => rfl
        | true =>
          exfalso
          obtain ⟨e, he, hk0⟩ := List.mem_map.mp ((hm k).1 q)
          obtain ⟨k0, tk0, e1, e2⟩ := g e he
          have : L2.keyOf e = k0 := by unfold L2.keyOf; rw [e1]
          rw [hk0] at this
          subst this
          obtain ⟨i, hi, ei⟩ := List.getElem_of_mem he
          have he' : es[i]? = some e := by rw [← Array.getElem?_toList, List.getElem?_eq_getElem hi, ei]
          have hp : t.place.toList[i]? = some (way t.mask (hashInt k) 0) := by
            rw [pl0, List.getElem?_map, List.getElem?_map, List.getElem?_eq_getElem hi, ei, way0]
            show some (hm0 t.mask e.1) = _
            rw [e2]
          have K1 : 0 < K := by
            rcases Nat.eq_zero_or_pos K with z | z
            · rw [z] at k2
              exact absurd (List.mem_of_getElem? hp) k2
            · exact z
          exact hno 0 i K1 hp ((hash_at i e he').trans e2)
      obtain ⟨t1, p, ep1, r1, em, el, epl, _⟩ := r.put k2 fun hb => k4 hb (away hS)
      refine wpAny_bind (stt _ _ rfl ?_)
      dsimp only
      rw [ep1]
      dsimp only
      have pl1 : t1.plain = true := by rw [epl]; exact pl
      refine wp_if_pos pl1 (wpAny_bind ?_)
      rw [hashBy_int]
      refine wpAny_pure ?_
      simp only [if_true]
      have el0 : (SetTable.insertAt es p ((intKind P w).hash k, Value.int k tk)).toList = es.toList.take p ++ (hashInt k, Value.int k tk) :: es.toList.drop p := SetTable.toList_insertAt _ _ _
      generalize SetTable.insertAt es p ((intKind P w).hash k, Value.int k tk) = es1 at el0 ⊢
      have pm : es1.toList.Perm ((hashInt k, Value.int k tk) :: es.toList) := by rw [el0]; exact put_perm _ _ _
      obtain ⟨g1, nd1, m1, n1, ap1⟩ := more hS pm
      have r1' : Reg1 t1 (es1.toList.map (·.1)) := by
        rw [el0, List.map_append, List.map_cons, List.map_take, List.map_drop]
        exact r1
      obtain ⟨f1, _⟩ := addEnd (s := s) (w := w) (S' := fun j => S j || decide (j = k)) ho hex hd g1 nd1 m1 r1' n1 (by rw [em]; exact hroom) room ap1 pl1 (hl.imp id fun z => by rw [el]; exact z)
      refine wpAny_bind (wpAny_storeSet_of ho hd ?_ (sz_line (by omega)))
      have ho1 := store_at (es' := es1) (t' := t1) ho hd
      have sb1 := Heap.SameBut.update s.heap a (Obj.putSet es1 t1)
      by_cases tf : t1.tooFull = true
      · refine wp_if_pos (by rw [tf]; rfl) ?_
        have h2 := (tooFull_iff r1').mp tf
        rw [List.length_map, Array.length_toList, n1] at h2
        obtain ⟨t2, order, e2, p2, r2, l2, pp2, pm2, z2, z3⟩ := laidUp r1' n1 (by rw [em]; exact hroom) h2 room ap1
        rw [n1] at e2 z3
        rw [setRelay_eq, hn]
        refine wpAny_bind (wpAny_bind (wpAny_setState_of ho1 rfl (r1'.fits (by rw [List.length_map, Array.length_toList])) ?_))
        dsimp only
        refine wp_if_neg (by rw [sizeLine_eq]; omega) ?_
        try refine wpAny_bind (wpAny_pure ?_)
        rw [e2]
        dsimp only
        refine wpAny_bind ?_
        refine wp_if_neg (by rw [z2]; simp) ?_
        try refine wpAny_bind (wpAny_pure ?_)
        refine wpAny_pure ?_
        dsimp only
        have sb2 := sb1.trans (Heap.SameBut.update (s.heap.update a (Obj.putSet es1 t1)) a (Obj.putSet (order.filterMap (es1[·]?)) t2))
        refine wpAny_storeSet_of ho1 rfl ?_ (sz_line (by omega))
        refine wpAny_pure (fin hS _ sb2 ?_)
        exact ⟨_, _, _, t2, store_at ho1 rfl, hex, rfl, fun x hx => g1 x (pm2.mem_iff.mp hx), (pm2.map L2.keyOf).nodup_iff.mpr nd1, fun j => (m1 j).trans (pm2.map L2.keyOf).mem_iff.symm, by rw [z2, n1], by omega, r2, ((pm2.map (fun e : Int × Value => e.1)).pairwise_iff (R := Apart) fun h => Ne.symm h).mpr ap1, by rw [pp2]; exact pl1, hl.imp id fun z => by rw [l2, el]; exact z⟩
      · refine wp_if_neg (by simp [tf]) ?_
        try refine wpAny_bind (wpAny_pure ?_)
        exact wpAny_pure (fin hS _ sb1 (f1 _ sb1 ho1 tf))
end
/-! ### set(l), sorted(s) of many ints -/
abbrev mtSet (w : World) : Obj := { cls := .type "set", dict := none, data := .set #[] 0 (.fresh 0 0 (!w.params.followText "set-order")) }
section
variable {P : Program} {w : World} {A : Around} {E : Value → Shared → Prop} {s : Shared} {a : Addr}
/-- each item of a walk is added -/
theorem updB {I S : Addr} {fp wr : List Addr} {G : Array GenState → Array GenState → Prop} {n : Nat} {Pv : Nat → Value → Prop} {St : Nat → Shared → Prop} {R : Result → Shared → Prop} (ns : List Int)
    (W : WalksS P w A.in1 I fp wr G n Pv St) (off : S ∉ fp) (hn : n = ns.length) (hb : ns.length ≤ 8192) (val : ∀ i v, Pv i v → ∃ k t, ns[i]? = some k ∧ v = .int k t) (far : ∀ x ∈ ns, ∀ y ∈ ns, x ≠ y → Apart (hashInt x) (hashInt y)) :
    ∀ (left i : Nat) (s : Shared), n = i + left → St i s → (∃ c, c ≤ i ∧ SetB w s.heap S (fun j => decide (j ∈ ns.take i)) c) →
      (∀ s' c, Moved (S :: wr) G s s' → c ≤ n → SetB w s'.heap S (fun j => decide (j ∈ ns)) c → R (.ok (.ret .none)) s') → codeAny (model P w) A (.builtin "set.update.loop" ⟨[.ref S, .ref I], []⟩) R s
  | 0, i, s, hi, st, ⟨c, hc, B⟩, fin => by
    have ei : i = ns.length := by omega
    refine codeAny_builtin F.entry_set_update_loop ?_
    rw [Around.under_plainId F.plain_set_update_loop _]
    show wpAny _ A.in1 (pyNext (.ref I) >>= _) _ _ s
    rw [show i = n by omega] at st
    refine wpAny_bind (W.done s _ _ st fun s' mv => ?_)
    show wpAny _ A.in1 (ret Value.none) _ _ s'
    rw [List.take_of_length_le (by omega)] at B
    exact wpAny_pure (fin s' c (mv.mono fun b z => List.mem_cons_of_mem _ z) (by omega) (B.at fun o e => mv.heap S o (fun z => off (W.sub _ z)) e))
  | left + 1, i, s, hi, st, ⟨c, hc, B⟩, fin => by
    refine codeAny_builtin F.entry_set_update_loop ?_
    rw [Around.under_plainId F.plain_set_update_loop _]
    show wpAny _ A.in1 (pyNext (.ref I) >>= _) _ _ s
    refine wpAny_bind (W.item i s _ _ (by omega) st fun v s' pv st' mv => ?_)
    obtain ⟨z, tz, hz, rfl⟩ := val i v pv
    have B' : SetB w s'.heap S (fun j => decide (j ∈ ns.take i)) c := B.at fun o e => mv.heap S o (fun q => off (W.sub _ q)) e
    show wpAny _ A.in1 (holding [Value.int z tz] (setAdd S (.int z tz)) >>= _) _ _ s'
    refine wpAny_bind (wpAny_holding ?_)
    unfold setAdd
    refine wpAny_holding (wpAny_bind ((intKind P w).pyHash (intKind_is P w z tz) ?_))
    refine addB (s := { s' with toks := s'.toks + 1 }) B' (by omega) (fun j hj ne => ?_) fun h' sb B2 => ?_
    · exact far j (List.mem_of_mem_take (of_decide_eq_true hj)) z (List.mem_of_getElem? hz) ne
    · have B3 : SetB w h' S (fun j => decide (j ∈ ns.take (i + 1))) _ := B2.congr fun j => by
        rw [List.take_add_one, hz]
        simp [List.mem_append]
      refine wpAny_pure ⟨plainId_quiet F.plain_set_update_loop _, updB ns W off hn hb val far left (i + 1) _ (by omega) ?_ ⟨_, ?_, B3⟩ fun s2 c2 mv2 hc2 B4 => ?_⟩
      · exact W.frame _ s' _ _ st' (Nat.le_succ _) fun b hb' o e => by rw [sb.2 b fun q : b = S => off (q ▸ hb')]; exact e
      · split <;> omega
      · refine fin s2 c2 (Moved.trans W.gtrans ((mv.mono fun b q => List.mem_cons_of_mem _ q).then_heap (Nat.le_succ _) fun b o hb' e => ?_) mv2) hc2 B4
        rw [sb.2 b fun q : b = S => hb' (q ▸ List.mem_cons_self)]
        exact e
theorem freshB {h : Heap} {ns : List Int} (at0 : h.get? a = some (mtSet w)) : SetB w h a (fun j => decide (j ∈ ns.take 0)) 0 := by
  refine ⟨_, #[], 0, _, at0, ⟨rfl, rfl, rfl⟩, rfl, fun e he => by simp at he, by simp, fun k => by simp, rfl, by omega, ⟨List.Pairwise.nil, rfl, rfl, .inl rfl, (show 0 * 5 < 7 * 3 by decide), fun z => by rcases z with z | z <;> cases z⟩, List.Pairwise.nil, rfl, ?_⟩
  show _ ∨ (!w.params.followText "set-order") = true
  cases w.params.followText "set-order"
  · exact .inr rfl
  · exact .inl rfl
end
section
variable {P : Program} {w : World} {A : Around} {E : Value → Shared → Prop} {s : Shared} {a : Addr}
/-- set(l) of a list of ints, Z being what its filling makes of it -/
theorem setMk {l : Addr} {its : Array Value} (ns : List Int) {Z : Heap → Nat → Prop} {Q : Value → Shared → Prop} (hh : A.handled = none) (hl : s.heap.IsList l its) (hi : IntsAre its.toList ns)
    (upd : ∀ {A' : Around} {I : Addr} {fp wr : List Addr} {G : Array GenState → Array GenState → Prop} {n : Nat} {Pv : Nat → Value → Prop} {St : Nat → Shared → Prop} {R : Result → Shared → Prop} (s0 : Shared), WalksS P w A'.in1 I fp wr G n Pv St → s.heap.objs.size ∉ fp → n = ns.length →
      (∀ i v, Pv i v → ∃ k t, ns[i]? = some k ∧ v = .int k t) → St 0 s0 → s0.heap.get? s.heap.objs.size = some (mtSet w) → (∀ s' c, Moved (s.heap.objs.size :: wr) G s0 s' → c ≤ n → Z s'.heap c → R (.ok (.ret .none)) s') → codeAny (model P w) A' (.builtin "set.update.loop" ⟨[.ref s.heap.objs.size, .ref I], []⟩) R s0)
    (fin : ∀ (h' : Heap) (tk c : Nat), Z h' c → c ≤ ns.length → (∀ b o, s.heap.get? b = some o → h'.get? b = some o) → Q (.ref s.heap.objs.size) { s with heap := h', toks := tk }) :
    wpAny (model P w) A (call (.type "set") [.ref l]) Q E s := by
  have len : its.size = ns.length := by
    have z := IntsAre.length hi
    rwa [Array.length_toList] at z
  obtain ⟨c, tl, hmro⟩ := F.called_set.mro
  have f1 := F.called_set.made
  have f2 := F.called_set.sub
  refine wpAny_call (codeAny_of_tree ?_)
  show wpAny _ _ (callAny (.type "set") _) _ _ _
  refine wpAny_pure ⟨Code.quiet_builtin _ (by decide +kernel), codeAny_builtin F.entry_type_call ?_⟩
  rw [Around.under_plain (weight_type_call_type "set" [.ref l] []) rfl]
  have f3 := F.called_set.notType
  have f4 := F.called_set.canCreate
  have f5 := F.typeCall_set_1 (.ref l)
  repeat (any_goals (first | assumption | wp_step))
  refine codeAny_mono (code_set_led1 (.ref l) (E := E) (Q₁ := fun ob s₁ => ob = .ref s.heap.objs.size ∧ s₁ = { s with heap := s.heap.push (mtSet w) }) ⟨rfl, rfl⟩) fun r s₁ made => ?_
  cases r with
  | error e => exact made
  | ok fl =>
    cases fl with
    | ret ob =>
      obtain ⟨rfl, rfl⟩ := made
      have at0 : (s.heap.push (mtSet w)).get? s.heap.objs.size = some (mtSet w) := Heap.get?_push_size _ rfl
      have ty0 : Shared.TypeIs { s with heap := s.heap.push (mtSet w) } (.ref s.heap.objs.size) "set" := ⟨_, at0, rfl⟩
      have f6 := F.called_set.init.lookup
      have f7 := F.called_set.init.bind (.ref s.heap.objs.size)
      repeat (any_goals (first | assumption | wp_step))
      refine codeAny_mono (codeAny_call_builtin (R := wants (fun r s₂ => r = .none ∧ ∃ h' tk c, s₂ = { s with heap := h', toks := tk } ∧ Z h' c ∧ c ≤ ns.length ∧
          (∀ b o, s.heap.get? b = some o → h'.get? b = some o)) E) F.called_set.init.plain F.entry_set_init (check_set_init_1 ty0 ?_)) fun r₂ s₂ ended => ?_
      · obtain ⟨⟨oc, od, oda, osl⟩, at1, e1, nl, e2⟩ := hl
        simp only at e1 e2
        subst e1; subst e2
        have at2 : (s.heap.push (mtSet w)).get? l = some { cls := .type "list", dict := od, data := .seq its nl, slots := osl } := Heap.get?_push_of_some _ at1
        have f8 := F.sub_list_set
        have f9 := F.sub_list_frozenset
        have ne : (Value.type "list" == Value.type "dict") = false := by decide
        have isl : (s.heap.push (mtSet w)).IsList l its := ⟨_, at2, rfl, nl, rfl⟩
        unfold Builtin.«set.__init__» noKeywords Builtin.Frozenset.updateFrom
        generalize iterE : pyIter = iter
        wp_walk
        subst iterE
        refine wpAny_pyIter_list isl (wpAny_bind (wpAny_runValue ?_))
        have ltl : l < s.heap.objs.size := Heap.lt_size at1
        have h3 : A.in1.in1.in1.handled = none := by simp [hh]
        have neI : l ≠ (s.heap.push (mtSet w)).objs.size := by
          rw [Heap.size_push]; exact fun z => absurd ltl (by rw [z]; exact Nat.not_lt.mpr (Nat.le_succ _))
        have nin : s.heap.objs.size ∉ [(s.heap.push (mtSet w)).objs.size, l] := by
          rw [Heap.size_push]
          intro z
          rcases List.mem_cons.mp z with z | z
          · exact absurd z (Nat.ne_of_lt (Nat.lt_succ_self _))
          · rw [List.mem_singleton] at z
            exact absurd ltl (by rw [← z]; exact Nat.lt_irrefl _)
        have val : ∀ (i : Nat) (v : Value), its[i]? = some v → ∃ k t, ns[i]? = some k ∧ v = .int k t := fun i v hv => by
          have hlt : i < ns.length := by rw [← len]; exact (Array.getElem?_eq_some_iff.mp hv).1
          obtain ⟨t, e⟩ := IntsAre.int_at hi i v (by rw [Array.getElem?_toList]; exact hv)
          exact ⟨ns[i], t, List.getElem?_eq_getElem hlt, by rw [e, List.getD_eq_getElem?_getD, List.getElem?_eq_getElem hlt] <;> rfl⟩
        refine upd _ ((Walks.list h3 _ l neI its).toS) nin len val ⟨⟨_, Heap.get?_push_size _ rfl, rfl, rfl⟩, isl.push _⟩ (Heap.get?_push_of_some _ at0) ?done
        case done =>
          intro s' c' mv hc' hS'
          obtain ⟨h', g2, d', tk', os'⟩ := s'
          obtain rfl : g2 = s.gens := mv.gens
          obtain rfl : d' = s.drawn := mv.drawn
          obtain rfl : os' = s.os := mv.os
          show wpAny _ _ _ _ _ _
          refine wpAny_pure ?_
          show wpAny _ _ (ret Value.none) _ _ _
          rw [len] at hc'
          refine wpAny_pure ⟨rfl, h', tk', c', rfl, hS', hc', fun b o e => ?_⟩
          have blt : b < s.heap.objs.size := Heap.lt_size e
          refine mv.heap b o ?_ (Heap.get?_push_of_some _ (Heap.get?_push_of_some _ e))
          rw [Heap.size_push]
          intro z
          rcases List.mem_cons.mp z with z | z
          · exact absurd blt (by rw [z]; exact Nat.lt_irrefl _)
          · rw [List.mem_singleton] at z
            exact absurd blt (by rw [z]; exact Nat.not_lt.mpr (Nat.le_succ _))
      · cases r₂ with
        | error e => exact ended
        | ok fl₂ =>
          cases fl₂ with
          | ret r =>
            obtain ⟨rfl, h', tk, c', rfl, hS', hc', kp⟩ := ended
            repeat (any_goals (first | assumption | wp_step))
            exact fin _ _ _ hS' hc' kp
          | _ => exact ended.elim
    | _ => exact made.elim
theorem setOfIntsB {l : Addr} {its : Array Value} (ns : List Int) {Q : Value → Shared → Prop} (hh : A.handled = none) (hl : s.heap.IsList l its) (hi : IntsAre its.toList ns) (hb : ns.length ≤ 8192) (far : ∀ x ∈ ns, ∀ y ∈ ns, x ≠ y → Apart (hashInt x) (hashInt y))
    (fin : ∀ (h' : Heap) (tk c : Nat), SetB w h' s.heap.objs.size (fun j => decide (j ∈ ns)) c → c ≤ ns.length → (∀ b o, s.heap.get? b = some o → h'.get? b = some o) → Q (.ref s.heap.objs.size) { s with heap := h', toks := tk }) :
    wpAny (model P w) A (call (.type "set") [.ref l]) Q E s :=
  setMk ns (Z := fun h c => SetB w h s.heap.objs.size (fun j => decide (j ∈ ns)) c) hh hl hi (fun s0 W off hn val st at0 f => updB ns W off hn hb val far ns.length 0 s0 (by omega) st ⟨0, Nat.le_refl 0, freshB at0⟩ f) fin
/-- as setOfIntsB, of any ints, not too many -/
theorem setOfInts {l : Addr} {its : Array Value} (ns : List Int) {Q : Value → Shared → Prop} (hh : A.handled = none) (hl : s.heap.IsList l its) (hi : IntsAre its.toList ns) (hb : ns.length + 1 < scanBound)
    (fin : ∀ (h' : Heap) (tk c : Nat), SetR w h' s.heap.objs.size (fun j => decide (j ∈ ns)) c → c ≤ ns.length → (∀ b o, s.heap.get? b = some o → h'.get? b = some o) → Q (.ref s.heap.objs.size) { s with heap := h', toks := tk }) :
    wpAny (model P w) A (call (.type "set") [.ref l]) Q E s :=
  setMk ns (Z := fun h c => SetR w h s.heap.objs.size (fun j => decide (j ∈ ns)) c) hh hl hi (fun s0 W off hn val st at0 f => set_update_ints W _ off ns hn hb val _ 0 s0 rfl (Nat.zero_le _) st ⟨0, Nat.le_refl 0, setR_new_at at0⟩ f) fin
variable {es : Array (Int × Value)} {ep : Nat} {t : SetTable}
/-- a walk over a set whose table shows its order, or that is walked as the text says -/
theorem iterB {Q : Value → Shared → Prop} (x : SetAt s.heap a es ep t) (hf : t.fits es.size = true) (r : Ris t.place.toList) (pl : t.plain = true) (hl : w.params.followText "set-order" = true ∨ t.led = true)
    (fin : ∀ s₂ I, SetIt P w s a es s₂ I → Q (.ref I) s₂) : wpAny (model P w) A (pyIter (.ref a)) Q E s := by
  obtain ⟨o, ho, hc, hd⟩ := id x
  have ne : a ≠ s.heap.objs.size := Nat.ne_of_lt (Heap.lt_size ho)
  have kept : ∀ (u : Obj) b o, s.heap.get? b = some o → (s.heap.push u).get? b = some o := fun u b o e => Heap.get?_push_of_some u e
  have mine : ∀ b ∈ [s.heap.objs.size, a], b = a ∨ s.heap.objs.size ≤ b := fun b hb => by
    rcases List.mem_cons.mp hb with z | z
    · exact .inr (Nat.le_of_eq z.symm)
    · exact .inl (List.mem_singleton.mp z)
  refine wpAny_pyIter_slot ⟨o, ho, hc⟩ F.slot_set_iter (wpAny_call_entry F.slot_set_iter ⟨o, ho, hc⟩ entry_s_iter ?_ (F.args_set_iter_1 _))
  unfold Builtin.«frozenset.__iter__»
  refine wpAny_bind (m := Builtin.Frozenset.slot0 "__iter__" _) (wpAny_of_eq (a := a) (by rfl) ?_)
  unfold Builtin.Frozenset.sizeOf
  refine wpAny_bind (m := setEntries a >>= _) (wpAny_bind (wpAny_setEntries_of ho hd hf (wpAny_pure ?_)))
  first | refine wpAny_bind (setDrawn_at x hf ?_) | refine wpAny_bind (wpAny_bind (setDrawn_at x hf ?_))
  refine wp_if_neg (by rw [pl]; simp) ?_
  first | refine wpAny_bind (wpAny_pure ?_) | refine wpAny_pure ?_
  refine wpAny_bind (wpAny_setEpoch_of ho hd hf ?_)
  cases bt : w.params.followText "set-order" with
  | true =>
    refine wpAny_bind (wpAny_newObj_type (wpAny_pure ⟨_, rfl, "set_iterator", _, ⟨_, Heap.get?_push_size _ rfl, rfl⟩, slot_si_next.lookup, fin _ _ ?_⟩))
    exact SetIt.of (fun A' hA' => walks_text (P := P) (ep := ep) hA' ne hf bt) (by simp) (kept _) rfl rfl rfl (Nat.le_refl _) mine ((pick_perm (w.params.setOrder a ep) es).map _)
      (fun j v q => by rw [List.getElem?_map, Array.getElem?_toList]; exact q) ⟨⟨_, Heap.get?_push_size _ rfl, rfl, rfl⟩, x.at (kept _ a)⟩
  | false =>
    have led : t.led = true := hl.resolve_left (by rw [bt]; exact Bool.false_ne_true)
    refine wpAny_bind (wpAny_newObj_type (wpAny_pure ⟨_, rfl, "set_iterator", _, ⟨_, Heap.get?_push_size _ rfl, rfl⟩, slot_si_next.lookup, fin _ _ ?_⟩))
    exact SetIt.of (fun A' hA' => walks_led (P := P) (ep := ep) hA' ne hf r bt (by rw [pl]; rfl) led) (by simp) (kept _) rfl rfl rfl (Nat.le_refl _) mine (List.Perm.refl _)
      (fun j v q => by rw [List.getElem?_map, Array.getElem?_toList]; exact q) ⟨⟨_, Heap.get?_push_size _ rfl, rfl, rfl⟩, x.at (kept _ a)⟩
end
section
variable {P : Program} {w : World} {A : Around} {E : Value → Shared → Prop} {s : Shared} {a : Addr} {es : Array (Int × Value)} {ep : Nat} {t : SetTable}
abbrev nilL : Obj := { cls := .type "list", data := .seq ([] : List Value).toArray }
/-- all items of such a set, in some order -/
theorem collectB {Q : List Value → Shared → Prop} (hh : A.handled = none) (x : SetAt s.heap a es ep t) (hf : t.fits es.size = true) (hz : es.size ≤ sizeLine) (r : Ris t.place.toList) (pl : t.plain = true) (hl : w.params.followText "set-order" = true ∨ t.led = true)
    (fin : ∀ s' out, (∀ b o, s.heap.get? b = some o → s'.heap.get? b = some o) → s.heap.objs.size ≤ s'.heap.objs.size → s'.gens = s.gens → s'.os = s.os → out.Perm (es.toList.map (·.2)) → Q out s') :
    wpAny (model P w) A (collect (.ref a)) Q E s := by
  obtain ⟨o, ho, hc, hd⟩ := id x
  have ne : s.heap.objs.size ≠ a := Nat.ne_of_gt (Heap.lt_size ho)
  have grow : ∀ b u, s.heap.get? b = some u → (s.heap.push nilL).get? b = some u := fun b u e => Heap.get?_push_of_some nilL e
  have new0 : (s.heap.push nilL).get? s.heap.objs.size = some nilL := Heap.get?_push_size _ rfl
  have size0 : (s.heap.push nilL).objs.size = s.heap.objs.size + 1 := size_push' _ _
  unfold collect
  refine wpAny_bind (wpAny_runValue (codeAny_builtin F.entry_proto_collect ?_))
  rw [Around.under_plainId F.plain_proto_collect _]
  show wpAny _ A.in1 (newList [] >>= fun l => again (.builtin "list.__iadd__" ⟨[l, .ref a], []⟩)) _ _ s
  refine wpAny_bind (wpAny_newObj_type (wpAny_pure ⟨plainId_quiet F.plain_list_iadd _, codeAny_builtin F.entry_list_iadd ?_⟩))
  rw [Around.under_plainId F.plain_list_iadd _]
  show wpAny _ A.in1 (Builtin.List.listExtendWith (.ref s.heap.objs.size) (.ref a) (.ref s.heap.objs.size)) _ _ _
  unfold Builtin.List.listExtendWith
  refine wpAny_bind (wpAny_typeOf (T := "set") ⟨o, grow a o ho, hc⟩ ?_)
  have q1 : Builtin.List.listSameRef (.ref s.heap.objs.size) (.ref a) = false := by simp [Builtin.List.listSameRef, ne]
  have q2 : (Value.type "set" == Value.type "list") = false := by decide
  have q3 : (Value.type "set" == Value.type "tuple") = false := by decide
  simp only [q1, q2, q3, Bool.or_false, Bool.false_eq_true, if_false]
  refine wpAny_bind (iterB (s := { s with heap := s.heap.push nilL }) (x.at (grow a)) hf r pl hl fun s₂ I it => ?_)
  obtain ⟨fp, St, out, Pv, keep2, eg, eo, _, hI, hfp, pm, walk, hPv, st0⟩ := it
  have hI2 : s.heap.objs.size < I := by
    have : (s.heap.push nilL).objs.size ≤ I := hI
    omega
  have away : s.heap.objs.size ∉ fp := fun m => by
    rcases hfp _ m with z | z
    · exact ne z
    · have : (s.heap.push nilL).objs.size ≤ s.heap.objs.size := z
      omega
  have T2 : s₂.TypeIs (.ref a) "set" := ⟨o, keep2 a o (grow a o ho), hc⟩
  refine wpAny_bind (wpAny_holding ?_)
  unfold Builtin.List.listLengthHint
  refine wpAny_bind (wpAny_specialOf T2 F.slot_set_len.lookup ?_)
  (generalize hid : ("set.__len__" : String) = id0; (fail_if_success (clear hid id0)); wp_delta; rw [show splitId id0 = some ("set", "__len__") from by subst hid; decide +kernel]; subst hid)
  refine wpAny_bind (wpAny_isInstance (b := true) T2 sub_set_self ?_)
  show wpAny _ A.in1 (typeOf (.ref a) >>= _) _ _ _
  refine wpAny_bind (wpAny_typeOf T2 (wpAny_pure ?_))
  show wpAny _ A.in1 (rule "list.extend.makes-room" >>= fun _ => Builtin.List.listTouch (.ref s.heap.objs.size) >>= fun _ => again (.builtin "list.extend.loop" ⟨[.ref s.heap.objs.size, .ref I, .ref s.heap.objs.size], []⟩)) _ _ _
  refine wpAny_bind (wpAny_rule (wpAny_bind ?_))
  show wpAny _ A.in1 (updateSeq s.heap.objs.size (·.push .none) >>= fun _ => updateSeq s.heap.objs.size (·.pop)) _ _ _
  have l2 := keep2 _ _ new0
  refine wpAny_bind (wpAny_updateSeq l2 rfl ?_)
  have l3 := Heap.get?_update_self (Obj.mapSeq (·.push Value.none)) l2 rfl
  refine wpAny_updateSeq l3 rfl ?_
  have l4 := Heap.get?_update_self (Obj.mapSeq (·.pop)) l3 rfl
  have others : ∀ b u, b ≠ s.heap.objs.size → s₂.heap.get? b = some u → ((s₂.heap.update s.heap.objs.size (Obj.mapSeq (·.push Value.none))).update s.heap.objs.size (Obj.mapSeq (·.pop))).get? b = some u := fun b u hb e => by
    rw [Heap.get?_update_other _ _ (Ne.symm hb), Heap.get?_update_other _ _ (Ne.symm hb)]
    exact e
  have W := walk A.in1 hh
  have small : out.length ≤ sizeLine := by
    rw [pm.length_eq, List.length_map, Array.length_toList]
    exact hz
  have st1 := W.frame 0 _ _ st0 fun b hb u e => others b u (fun z => away (z ▸ hb)) e
  refine wpAny_pure ⟨plainId_quiet F.plain_extend_loop _, codeAny_extend_loopS W.toS small _ away _ out.length 0 _ _ _ rfl (Nat.zero_le _) st1 l4 (ItemsOf.nil Pv) fun s' acc' c' mv at' got => ?_⟩
  show wpAny _ A (load s.heap.objs.size >>= _) _ _ s'
  refine wpAny_bind (wpAny_load at' (wpAny_pure ?_))
  show Q acc'.toList s'
  rw [items_out got hPv]
  refine fin s' out (fun b u e => ?_) (Nat.le_of_lt (Heap.lt_size at')) (mv.gens.trans eg) (mv.os.trans eo) pm
  have hb : b < s.heap.objs.size := Heap.lt_size e
  refine mv.heap b u (fun z => ?_) (others b u (Nat.ne_of_lt hb) (keep2 b u (grow b u e)))
  rcases List.mem_cons.mp z with z | z
  · rw [z] at hb
    exact Nat.lt_irrefl _ hb
  · rw [List.mem_singleton.mp z] at hb
    exact Nat.lt_irrefl _ (Nat.lt_trans hb hI2)
/-- sorted(a) -/
theorem sortedB {S : Int → Bool} {n : Nat} {Q : Value → Shared → Prop} (R : SetB w s.heap a S n) (hh : A.handled = none)
    (fin : ∀ s' p (out : List Value) (c : Nat) (ns : List Int), (∀ b o, s.heap.get? b = some o → s'.heap.get? b = some o) → s'.gens = s.gens → s'.os = s.os → s.heap.objs.size ≤ p →
      s'.heap.get? p = some (seqObj "list" out.toArray c) → IntsAre out ns → ns.Pairwise (· < ·) → (∀ k, k ∈ ns ↔ S k = true) → ns.length = n → Q (.ref p) s') :
    wpAny (model P w) A (call (.builtin "sorted") [.ref a]) Q E s := by
  obtain ⟨o, es, ep, t, ho, hex, hd, good, nd, mem, hn, hb8, r, ap, pl, hl⟩ := R.ex
  have hf : t.fits es.size = true := r.one.fits (by rw [List.length_map, Array.length_toList])
  refine Calls.call_function_entry kind_sorted plain_sorted entry_sorted (args_sorted1 _) ?_
  unfold Builtin.«sorted»
  refine wpAny_bind (m := checkCount "sorted" 1 1 _) (wpAny_pure ?_)
  refine wpAny_bind (collectB (A := A.in1) hh ⟨o, ho, hex.1, hd⟩ hf (sz_line (by omega)) r.ris pl hl fun s1 vs k1 hz g1 o1 pm => ?_)
  have lv : vs.length = n := by rw [pm.length_eq, List.length_map, Array.length_toList]; exact hn
  have is : IntsAre vs (vs.map Builtin.Re.reRawOf) := ints_of vs fun v hv => by
    obtain ⟨x, hx, q⟩ := List.mem_map.mp (pm.mem_iff.mp hv)
    obtain ⟨k, tk, h1, _⟩ := good x hx
    exact ⟨k, tk, by rw [← q]; exact h1⟩
  have pk : (vs.map Builtin.Re.reRawOf).Perm (es.toList.map L2.keyOf) := by
    have z := pm.map Builtin.Re.reRawOf
    rwa [List.map_map] at z
  have small : vs.length ≤ sizeLine := sz_line (by omega)
  refine wpAny_bind (wpAny_newList ?_ small)
  have at1 : (s1.heap.push (seqObj "list" vs.toArray 0)).get? s1.heap.objs.size = some (seqObj "list" vs.toArray 0) := Heap.get?_push_size _ rfl
  refine wpAny_bind (wpAny_holding (wpAny_call_entry slot_list_sort ⟨_, at1, rfl⟩ entry_list_sort (SrtO.list_sort_ord SrtO.swo_int at1 small (fun h2 => SrtO.ints_sortable is h2) fun out h1 h2 => ⟨_, rfl, ?_⟩) (args_list_sort _)))
  obtain ⟨x1, x2, x3⟩ := SrtO.ints_out is h1 h2
  obtain ⟨c, hc⟩ := sortedHeap_at (vs := vs) (out := out.toArray) at1
  have pn : (out.map SrtO.iv).Perm (es.toList.map L2.keyOf) := x2.trans pk
  refine wpAny_pure ⟨_, rfl, fin _ s1.heap.objs.size out c _ (fun b u e => ?_) g1 o1 hz hc x1 (lt_of_le_nodup _ x3 (pn.nodup_iff.mpr nd)) (fun k => by rw [pn.mem_iff, ← mem k]) ?_⟩
  · have z := k1 b u e
    have blt := Heap.lt_size z
    show (sortedHeap (s1.heap.push (seqObj "list" vs.toArray 0)) s1.heap.objs.size vs out.toArray).get? b = some u
    rw [sortedHeap_old (Nat.ne_of_lt blt) (by rw [size_push']; exact Nat.lt_succ_of_lt blt)]
    exact Heap.get?_push_of_some _ z
  · rw [pn.length_eq, List.length_map, Array.length_toList]; exact hn
end

/-! ### sorted(set(xs)) of ints -/
section
variable {P : Program} {w : World} {A : Around} {E : Value → Shared → Prop} {s : Shared}
/-- sorted(a) of a set of ints -/
theorem sortedOfSet {a : Addr} {S : Int → Bool} {n : Nat} {Q : Value → Shared → Prop} (R : SetR w s.heap a S n) (hh : A.handled = none)
    (fin : ∀ s' p (out : List Value) (c : Nat) (ns : List Int), (∀ b o, s.heap.get? b = some o → s'.heap.get? b = some o) → s'.gens = s.gens → s'.os = s.os → s.heap.objs.size ≤ p →
      s'.heap.get? p = some (seqObj "list" out.toArray c) → IntsAre out ns → ns.Pairwise (· < ·) → (∀ k, k ∈ ns ↔ S k = true) → ns.length = n → Q (.ref p) s') :
    wpAny (model P w) A (call (.builtin "sorted") [.ref a]) Q E s := by
  obtain ⟨o, es, ep, t, ho, hex, hd, good, nd, mem, hb, hf, hn, hr, hl⟩ := R
  refine Calls.call_function_entry kind_sorted plain_sorted entry_sorted (args_sorted1 _) ?_
  unfold Builtin.«sorted»
  refine wpAny_bind (m := checkCount "sorted" 1 1 _) (wpAny_pure ?_)
  refine wpAny_bind (collect_set (A := A.in1) hh ⟨o, ho, hex.1, hd⟩ hf hb hr hl fun s1 vs k1 hz g1 o1 pm => ?_)
  have lv : vs.length = n := by rw [pm.length_eq, List.length_map, Array.length_toList]; exact hn
  have is : IntsAre vs (vs.map Builtin.Re.reRawOf) := ints_of vs fun v hv => by
    obtain ⟨x, hx, q⟩ := List.mem_map.mp (pm.mem_iff.mp hv)
    obtain ⟨k, tk, h1, _⟩ := good x hx
    exact ⟨k, tk, by rw [← q]; exact h1⟩
  have pk : (vs.map Builtin.Re.reRawOf).Perm (es.toList.map L2.keyOf) := by
    have z := pm.map Builtin.Re.reRawOf
    rwa [List.map_map] at z
  have small : vs.length ≤ sizeLine := by rw [lv, ← hn]; exact Nat.le_trans (Nat.le_of_lt hb) (by decide)
  refine wpAny_bind (wpAny_newList ?_ small)
  have at1 : (s1.heap.push (seqObj "list" vs.toArray 0)).get? s1.heap.objs.size = some (seqObj "list" vs.toArray 0) := Heap.get?_push_size _ rfl
  refine wpAny_bind (wpAny_holding (wpAny_call_entry slot_list_sort ⟨_, at1, rfl⟩ entry_list_sort (SrtO.list_sort_ord SrtO.swo_int at1 small (fun h2 => SrtO.ints_sortable is h2) fun out h1 h2 => ⟨_, rfl, ?_⟩) (args_list_sort _)))
  obtain ⟨x1, x2, x3⟩ := SrtO.ints_out is h1 h2
  obtain ⟨c, hc⟩ := sortedHeap_at (vs := vs) (out := out.toArray) at1
  have pn : (out.map SrtO.iv).Perm (es.toList.map L2.keyOf) := x2.trans pk
  refine wpAny_pure ⟨_, rfl, fin _ s1.heap.objs.size out c _ (fun b u e => ?_) g1 o1 hz hc x1 (lt_of_le_nodup _ x3 (pn.nodup_iff.mpr nd)) (fun k => by rw [pn.mem_iff, ← mem k]) ?_⟩
  · have z := k1 b u e
    have blt := Heap.lt_size z
    show (sortedHeap (s1.heap.push (seqObj "list" vs.toArray 0)) s1.heap.objs.size vs out.toArray).get? b = some u
    rw [sortedHeap_old (Nat.ne_of_lt blt) (by rw [size_push']; exact Nat.lt_succ_of_lt blt)]
    exact Heap.get?_push_of_some _ z
  · rw [pn.length_eq, List.length_map, Array.length_toList]; exact hn
end
section
variable {X : Cx} {g : Gx} {c : Cxt} {W : WX} {e1 : Expr} {fa : Sl → Option (Rs T)} {pos p1 p2 p3 : Pos}
theorem cr_setI (hc : X.calm = true) : CallR X (.type "set") (fun xs H Q => ∃ (l : Addr) (ns : List Int), xs = [.ref l] ∧ SqL X.K H l (ns.map V.int) ∧ ns.length + 1 < scanBound ∧ ∀ (p : Addr) (k : Nat), H p = none → k ≤ ns.length → Q (.ref p) (upd H p (SetO X.w p (fun j => decide (j ∈ ns)) k))) := by
  intro pn s σ H xs us Q I r h
  obtain ⟨l, ns, rfl, sq, hb, q⟩ := h
  obtain ⟨u, rfl, ru⟩ := r.one
  cases ru
  obtain ⟨its, rv, pl, hz⟩ := I.list sq
  refine setOfInts ns (I.ok.hd hc) pl.isList (by simpa using rv.ints) hb fun h' tk k hS hk kp => ?_
  exact ⟨.ref s.heap.objs.size, _, I.laid (t' := tk) kp (Nat.le_refl _) (setO_new hS), rfl, q _ _ I.fresh hk⟩
theorem cr_sortedSI (hc : X.calm = true) : CallR X (.builtin "sorted") (fun xs H Q => ∃ (a : Addr) (S : Int → Bool) (n : Nat), xs = [.ref a] ∧ H a = some (SetO X.w a S n) ∧ n ≤ sizeLine ∧
    ∀ (ns : List Int) (p : Addr), ns.Pairwise (· < ·) → (∀ k, k ∈ ns ↔ S k = true) → ns.length = n → H p = none → Q (.ref p) (upd H p (.lst (ns.map V.int)))) := by
  intro pn s σ H xs us Q I r h
  obtain ⟨a, S, n, rfl, ha, hn, q⟩ := h
  obtain ⟨u, rfl, ru⟩ := r.one
  cases ru
  refine sortedOfSet (setO_get I ha) (I.ok.hd hc) fun s' p out k ns kp eg eo hp at1 is pw mem ln => ?_
  have np : H p = none := I.hok.fresh hp
  have hlen : p < s'.heap.objs.size := Heap.lt_size at1
  refine ⟨.ref p, upd H p (.lst (ns.map V.int)), ?_, rfl, q ns p pw mem ln np⟩
  exact I.call' (ch := []) eo (Un.laid kp hp np) (I.hok.laid kp hp ⟨by rw [List.length_map, ln]; exact hn, out, k, vals_of_ints is, at1⟩) (by rw [eg]; exact I.bare) (fun _ z => nomatch z)
theorem pa_one1 {X : Cx} {e : Expr} {t : TE} (hs : starB e = false) (h : PE X e t) : PA X [e] (fun σ H Q => t σ H fun v H1 => Q [v] H1) := by
  have z := pa_cons h pa_nil (star_cons hs)
  exact z
end
def SetBO (w : World) (a : Addr) (S : Int → Bool) (n : Nat) : HO := .ext fun h => SetB w h a S n
theorem setBO_new {w : World} {P : Program} {H : Hp} {h : Heap} {a : Addr} {S : Int → Bool} {n : Nat} (R : SetB w h a S n) : ObjOk P w H h a (SetBO w a S n) := by
  have ⟨o, _, _, _, ho, _⟩ := R.ex
  exact ⟨R, ⟨o, ho⟩, fun h1 h2 p k => SetB.at p k⟩
theorem setBO_get {X : Cx} {pins : List (Addr × Obj)} {σ : L2.St} {H : Hp} {s : Shared} {a : Addr} {S : Int → Bool} {n : Nat} (I : Inv X pins σ H s) (ha : H a = some (SetBO X.w a S n)) : SetB X.w s.heap a S n := (I.hok a _ ha).1
/-- small ones that stand apart at 8192 slots -/
def bigI (ns : List Int) : Bool := decide (ns.length ≤ 8192) && (ns.all fun n => decide (-3 ≤ n) && decide (n < 8000)) && !(ns.contains (-1) && ns.contains (-2))
theorem hashS {n : Int} (h1 : -3 ≤ n) (h2 : n < 8000) : hashInt n = if n = -1 then -2 else n := by
  have p61 : (((2 ^ 61 - 1 : Nat) : Nat) : Int) = 2305843009213693951 := rfl
  have hm : ((n.natAbs : Nat) : Int) % (((2 ^ 61 - 1 : Nat) : Nat) : Int) = ((n.natAbs : Nat) : Int) := Int.emod_eq_of_lt (Int.natCast_nonneg _) (by omega)
  have e : rawHash n = if n = -1 then -2 else n := by
    simp only [rawHash, hm]
    by_cases c : n = -1
    · subst c
      decide
    · rw [if_neg c]
      by_cases c2 : n < 0
      · rw [if_pos c2, show (-((n.natAbs : Nat) : Int)) = n by omega, if_neg (by simpa using c)]
      · rw [if_neg c2, show ((n.natAbs : Nat) : Int) = n by omega, if_neg (by simpa using c)]
  unfold hashInt
  rw [e]
  by_cases c : n = -1
  · simp [c]
  · rw [if_neg c, if_neg (by simpa using c)]
theorem bits_small {n : Int} (h1 : -3 ≤ n) (h2 : n < 8000) : ((SetTable.bits n % 8192 : Nat) : Int) = if n < 0 then n + 8192 else n := by
  unfold SetTable.bits
  by_cases c : n < 0
  · have e : n % (2 ^ 64 : Int) = n + 2 ^ 64 := by
      rw [← Int.add_emod_right, Int.emod_eq_of_lt (by omega) (by omega)]
    rw [e, if_pos c]
    omega
  · rw [Int.emod_eq_of_lt (by omega) (by omega), if_neg c]
    omega
theorem bigI_far {ns : List Int} (h : bigI ns = true) : ns.length ≤ 8192 ∧ ∀ x ∈ ns, ∀ y ∈ ns, x ≠ y → Apart (hashInt x) (hashInt y) := by
  unfold bigI at h
  simp only [Bool.and_eq_true, decide_eq_true_eq, Bool.not_eq_true', List.all_eq_true, Bool.and_eq_false_iff] at h
  obtain ⟨⟨h1, h2⟩, h3⟩ := h
  refine ⟨h1, fun x hx y hy ne z => ?_⟩
  have bx := h2 x hx
  have by_ := h2 y hy
  rw [hashS bx.1 bx.2, hashS by_.1 by_.2] at z
  have ax := bits_small (n := if x = -1 then -2 else x) (by split <;> omega) (by split <;> omega)
  have ay := bits_small (n := if y = -1 then -2 else y) (by split <;> omega) (by split <;> omega)
  rw [z, ay] at ax
  have nx : ∀ v, v ∈ ns → ns.contains v = true := fun v hv => List.contains_iff_mem.mpr hv
  by_cases c1 : x = -1
  · by_cases c2 : y = -2
    · rw [c1] at hx
      rw [c2] at hy
      rcases h3 with h3 | h3
      · rw [nx _ hx] at h3; cases h3
      · rw [nx _ hy] at h3; cases h3
    · rw [if_pos c1] at ax
      by_cases c3 : y = -1
      · exact ne (c1.trans c3.symm)
      · rw [if_neg c3] at ax
        split at ax <;> split at ax <;> omega
  · by_cases c2 : y = -1
    · by_cases c4 : x = -2
      · rw [c4] at hx
        rw [c2] at hy
        rcases h3 with h3 | h3
        · rw [nx _ hy] at h3; cases h3
        · rw [nx _ hx] at h3; cases h3
      · rw [if_neg c1, if_pos c2] at ax
        split at ax <;> split at ax <;> omega
    · rw [if_neg c1, if_neg c2] at ax
      split at ax <;> split at ax <;> omega
section
variable {X : Cx} {g : Gx} {c : Cxt} {W : WX} {e1 : Expr} {fa : Sl → Option (Rs T)} {pos p1 p2 p3 : Pos}
def rSetI (w : World) (K : PySem.W.Frag) : List V → Hp → VK → Prop := fun xs H Q => ∃ (l : Addr) (ns : List Int), xs = [.ref l] ∧ SqL K H l (ns.map V.int) ∧
  ((ns.length + 1 < scanBound ∧ ∀ (p : Addr) (k : Nat), H p = none → k ≤ ns.length → Q (.ref p) (upd H p (SetO w p (fun j => decide (j ∈ ns)) k))) ∨
    (bigI ns = true ∧ ∀ (p : Addr) (k : Nat), H p = none → k ≤ ns.length → Q (.ref p) (upd H p (SetBO w p (fun j => decide (j ∈ ns)) k))))
theorem cr_setI2 (hc : X.calm = true) : CallR X (.type "set") (rSetI X.w X.K) := by
  intro pn s σ H xs us Q I r h
  obtain ⟨l, ns, e, sq, h⟩ := h
  rcases h with ⟨hb, q⟩ | ⟨hb, q⟩
  · exact cr_setI hc pn s σ H xs us Q I r ⟨l, ns, e, sq, hb, q⟩
  · subst e
    obtain ⟨u, rfl, ru⟩ := r.one
    cases ru
    obtain ⟨its, rv, pl, hz⟩ := I.list sq
    obtain ⟨b1, b2⟩ := bigI_far hb
    refine setOfIntsB ns (I.ok.hd hc) pl.isList (by simpa using rv.ints) b1 b2 fun h' tk k hS hk kp => ?_
    exact ⟨.ref s.heap.objs.size, _, I.laid (t' := tk) kp (Nat.le_refl _) (setBO_new hS), rfl, q _ _ I.fresh hk⟩
def rSortedSI (w : World) : List V → Hp → VK → Prop := fun xs H Q => ∃ (a : Addr) (S : Int → Bool) (n : Nat), xs = [.ref a] ∧ (H a = some (SetO w a S n) ∨ H a = some (SetBO w a S n)) ∧ n ≤ sizeLine ∧
  ∀ (ns : List Int) (p : Addr), ns.Pairwise (· < ·) → (∀ k, k ∈ ns ↔ S k = true) → ns.length = n → H p = none → Q (.ref p) (upd H p (.lst (ns.map V.int)))
theorem cr_sortedSI2 (hc : X.calm = true) : CallR X (.builtin "sorted") (rSortedSI X.w) := by
  intro pn s σ H xs us Q I r h
  obtain ⟨a, S, n, e, ha, hn, q⟩ := h
  rcases ha with ha | ha
  · exact cr_sortedSI hc pn s σ H xs us Q I r ⟨a, S, n, e, ha, hn, q⟩
  · subst e
    obtain ⟨u, rfl, ru⟩ := r.one
    cases ru
    refine sortedB (setBO_get I ha) (I.ok.hd hc) fun s' p out k ns kp eg eo hp at1 is pw mem ln => ?_
    have np : H p = none := I.hok.fresh hp
    refine ⟨.ref p, upd H p (.lst (ns.map V.int)), ?_, rfl, q ns p pw mem ln np⟩
    exact I.call' (ch := []) eo (Un.laid kp hp np) (I.hok.laid kp hp ⟨by rw [List.length_map, ln]; exact hn, out, k, vals_of_ints is, at1⟩) (by rw [eg]; exact I.bare) (fun _ z => nomatch z)
end
/-! the ascending list of what a list of ints holds -/
def insI (k : Int) : List Int → List Int
  | [] => [k]
  | x :: xs => if k < x then k :: x :: xs else if k = x then x :: xs else x :: insI k xs
def setI (ns : List Int) : List Int := ns.foldr insI []
theorem insI_mem (k j : Int) : ∀ xs, j ∈ insI k xs ↔ j = k ∨ j ∈ xs
  | [] => by simp [insI]
  | x :: xs => by
    unfold insI
    split
    · simp
    · split
      · rename_i h1 h2
        subst h2
        simp
      · rw [List.mem_cons, insI_mem k j xs, List.mem_cons]
        exact ⟨fun h => by rcases h with h | h | h <;> simp [h], fun h => by rcases h with h | h | h <;> simp [h]⟩
theorem setI_mem (j : Int) : ∀ ns, j ∈ setI ns ↔ j ∈ ns
  | [] => by simp [setI]
  | n :: ns => by
    show j ∈ insI n (setI ns) ↔ _
    rw [insI_mem, setI_mem j ns, List.mem_cons]
theorem insI_asc (k : Int) : ∀ xs, xs.Pairwise (· < ·) → (insI k xs).Pairwise (· < ·)
  | [], _ => by simp [insI]
  | x :: xs, h => by
    have h0 := List.pairwise_cons.mp h
    unfold insI
    split
    · rename_i h1
      exact List.pairwise_cons.mpr ⟨fun y hy => by
        rcases List.mem_cons.mp hy with rfl | hy
        · exact h1
        · have := h0.1 y hy; omega, h⟩
    · split
      · exact h
      · rename_i h1 h2
        exact List.pairwise_cons.mpr ⟨fun y hy => by
          rcases (insI_mem k y xs).mp hy with rfl | hy
          · omega
          · exact h0.1 y hy, insI_asc k xs h0.2⟩
theorem setI_asc : ∀ ns, (setI ns).Pairwise (· < ·)
  | [] => List.Pairwise.nil
  | n :: ns => insI_asc n _ (setI_asc ns)
theorem asc_uniq : ∀ {a b : List Int}, a.Pairwise (· < ·) → b.Pairwise (· < ·) → (∀ k, k ∈ a ↔ k ∈ b) → a = b
  | [], [], _, _, _ => rfl
  | [], y :: b, _, _, h => absurd ((h y).mpr (by simp)) (by simp)
  | x :: a, [], _, _, h => absurd ((h x).mp (by simp)) (by simp)
  | x :: a, y :: b, ha, hb, h => by
    have a0 := List.pairwise_cons.mp ha
    have b0 := List.pairwise_cons.mp hb
    have e : x = y := by
      have h1 := (h x).mp (by simp)
      have h2 := (h y).mpr (by simp)
      rcases List.mem_cons.mp h1 with h1 | h1
      · exact h1
      · rcases List.mem_cons.mp h2 with h2 | h2
        · exact h2.symm
        · have := a0.1 y h2
          have := b0.1 x h1
          omega
    subst e
    rw [asc_uniq a0.2 b0.2 fun k => ?_]
    have hk := h k
    simp only [List.mem_cons] at hk
    constructor
    · intro m
      have := a0.1 k m
      rcases hk.mp (.inr m) with z | z
      · omega
      · exact z
    · intro m
      have := b0.1 k m
      rcases hk.mpr (.inr m) with z | z
      · omega
      · exact z
section
variable {X : Cx} {g : Gx} {c : Cxt} {W : WX} {e1 : Expr} {fa : Sl → Option (Rs T)} {pos p1 p2 p3 : Pos}
def ssetT (t : T) : Option T := ((lstDs t).bind intsD).bind fun ns => if ns.length + 1 < scanBound ∨ bigI ns = true then some (.lst ((setI ns).map fun n => .fz (.int n))) else none
/-- sorted(set(e)), e a list of ints -/
theorem cj_sset (kc : Cp X g c) (h1 : glB c "sorted" = true) (h2 : glB c "set" = true) (hs : starB e1 = false) (ha : CJ X g W fa e1) :
    CJ X g W (fun ρ => bindR (fa ρ) fun t ρ1 => okR (ssetT t) ρ1) (.Call (.Name "sorted" p1) [.Call (.Name "set" p2) [e1] [] p3] [] pos) := by
  obtain ⟨ta, pa, ra⟩ := ha
  refine ⟨_, pe_callB (cr_sortedSI2 kc.calm) (kc.gl h1) (kc.bn _ (by decide)) (by decide +kernel) (pa_one1 rfl (pe_callTy (cr_setI2 kc.calm) (kc.gl h2) (kc.bn _ (by decide)) (by decide +kernel) (pa_one1 hs pa) (by decide) (by decide) (star_cons hs) (star_none fun x hx => nomatch hx))) (by decide) (by decide) (star_cons rfl) (star_none fun x hx => nomatch hx), fun e ρ τ σ H Hs Q o q => ?_⟩
  refine ra e ρ τ σ H Hs _ o (Post.bind q fun t ρ1 _ v H1 Hs1 o1 q1 => ?_)
  obtain ⟨u, hu, q2⟩ := q1.okR
  unfold ssetT at hu
  simp only [Option.bind_eq_some_iff] at hu
  obtain ⟨ns, ⟨ds, hd, hi⟩, hu⟩ := hu
  split at hu <;> (try (cases hu; done))
  rename_i hb
  cases hu
  obtain ⟨a, vs, rfl, rd, rs⟩ := o1.lstRd hd
  obtain rfl := rs.ints hi
  have hlen : ns.length ≤ sizeLine := by
    have h1 : scanBound = 4096 := rfl
    rcases hb with hb | hb
    · exact sz_line (by omega)
    · exact sz_line (bigI_far hb).1
  have fin : ∀ (p : Addr) (k : Nat) (O : HO), (H1 p = none) → k ≤ ns.length → (∀ (ms : List Int) (p' : Addr), ms.Pairwise (· < ·) → (∀ j, j ∈ ms ↔ decide (j ∈ ns) = true) → upd H1 p O p' = none → Q (.ref p') (upd (upd H1 p O) p' (.lst (ms.map V.int)))) := fun p k O hp hk (ms : List Int) p' pw mem hp' => by
    have em : ms = setI ns := asc_uniq pw (setI_asc ns) fun j => by rw [mem, setI_mem]; simp
    subst em
    exact q2 _ _ _ (((o1.drop.grow (upd_keep hp)).fzInts _).newList hp')
  refine ⟨a, ns, rfl, .inl rd, ?_⟩
  rcases hb with hb | hb
  · exact .inl ⟨hb, fun p k hp hk => ⟨p, _, k, rfl, .inl upd_same, Nat.le_trans hk hlen, fun ms p' pw mem ln hp' => fin p k _ hp hk ms p' pw mem hp'⟩⟩
  · exact .inr ⟨hb, fun p k hp hk => ⟨p, _, k, rfl, .inr upd_same, Nat.le_trans hk hlen, fun ms p' pw mem ln hp' => fin p k _ hp hk ms p' pw mem hp'⟩⟩
end
end DL
namespace DL
open PySem PySem.Spec PyProof.Rows L2

section
variable {X : Cx} {g : Gx} {c : Cxt} {W : WX} {e1 e2 ex tgx : Expr} {st : Stmt} {fa fb : Sl → Option (Rs T)} {f1 : Sl → Option Fl} {pos p1 p2 p3 : Pos}
/-- it is never reached -/
theorem sj_nev : SJ X g c W (fun _ => none) st := ⟨_, ps_never, fun e ρ τ σ H Hs D _ o q => q.elim⟩
theorem ssj_nev {sts : List Stmt} : SsJ X g c W (fun _ => none) sts := ⟨_, pss_never, fun e ρ τ σ H Hs D _ o q => q.elim⟩
/-- some slots are forgotten first -/
theorem sj_kill (is : List Nat) (h : SJ X g c W f1 st) : SJ X g c W (fun ρ => f1 (wipeT ρ is)) st := by
  obtain ⟨ts, p, r⟩ := h
  exact ⟨ts, p, fun e ρ τ σ H Hs D hp o q => r e _ τ σ H Hs D hp (o.wipeT is) q⟩
def tupB : Expr → Bool
  | .Tuple _ _ _ => true
  | _ => false
theorem no_par {t e : Expr} {env : PySem.Env} (h : tupB e = false) : swappedStores [t] e env = pure none := by
  cases e <;> first | (simp [tupB] at h; done) | (cases t <;> rfl)
/-- names in brackets that are stored one behind the other -/
def swN (c : Cxt) (ts vs : List Expr) : Bool :=
  !(ts.length == 2 || ts.length == 3) || vs.length != ts.length || (ts.filterMap fun
    | .Name y p => if (c.look.lookup y == some .local && p.line == (ts.head?.map (·.pos.line)).getD 0) = true then some y else none
    | _ => none).length != ts.length || vs.all (foldedForSure 8)
def swB (c : Cxt) : Expr → Expr → Bool
  | .Tuple ts _ _, .Tuple vs _ _ => swN c ts vs
  | _, _ => false
theorem swB_ok (k : Cp X g c) {t e : Expr} (h : swB c t e = true) : swappedStores [t] e X.env = pure none := by
  unfold swB at h
  split at h <;> (try (cases h; done))
  have hb : X.env.blockKind = .function := by
    unfold PySem.Env.blockKind
    rw [k.kind]
    rfl
  have ek : X.env.kindOf = fun y => c.look.lookup y := funext k.sc
  unfold swN at h
  simp only [Bool.or_eq_true, Bool.not_eq_true'] at h
  unfold swappedStores
  simp only [hb, ek]
  split
  · rfl
  · rename_i n1
    split
    · rfl
    · split
      · rfl
      · rename_i n3
        split
        · rfl
        · rename_i n4
          exfalso
          simp only [Bool.or_eq_true, Bool.not_eq_true', not_or, Bool.not_eq_true] at n1 n3
          rcases h with ((h | h) | h) | h
          · exact absurd h n1.1.1
          · rw [n1.1.2] at h; cases h
          · exact Bool.noConfusion (h.symm.trans n3.1)
          · exact n4 h
/-- tg = e, tg a name or names in brackets -/
theorem sj_tgt (k : Cp X g c) {G : Tg} (hg : mtG c G tgx = true) (ht : starB tgx = false) (hs : compB ex = false) (hp : swappedStores [tgx] ex X.env = pure none) (ha : CJ X g W fa ex) :
    SJ X g c W (fun ρ => bindE (fa ρ) fun t ρ1 => (stT G t ρ1).map Fl.nx) (.Assign [tgx] ex pos) := by
  obtain ⟨ta, pa, ra⟩ := ha
  obtain ⟨gt, pg, rg⟩ := sndG k G tgx hg
  refine ⟨_, ps_asg pa pg (no_swap hs) hp (by rw [asg_cons ht]; rfl), fun e ρ τ σ H Hs D hpr o q => ?_⟩
  refine ra e ρ τ σ H Hs _ o (PostS.bindE q fun t ρ1 _ v H1 Hs1 o1 q1 => ?_)
  cases h : stT G t ρ1 with
  | none => rw [h] at q1; exact q1.elim
  | some ρ2 =>
    rw [h] at q1
    exact rg e ρ1 τ σ H1 Hs1 v t _ hpr o1 ⟨ρ2, h, fun σ' _ o2 => q1 σ' H1 Hs1 o2⟩
theorem cj_bop1 {op : BoolOp} (ha : CJ X g W fa e1) : CJ X g W fa (.BoolOp op [e1] pos) := let ⟨ta, pa, ra⟩ := ha; ⟨ta, pe_one pa, ra⟩
theorem cj_and {es : List Expr} (k : Cp X g c) (ha : CJ X g W fa e1) (hb : CJ X g W fb (.BoolOp .And (e2 :: es) pos)) :
    CJ X g W (fun ρ => bindR (fa ρ) fun x ρ1 => match x.d.tru with | some true => fb ρ1 | some false => some (.ok x ρ1) | none => none) (.BoolOp .And (e1 :: e2 :: es) pos) := by
  obtain ⟨ta, pa, ra⟩ := ha
  obtain ⟨tb, pb, rb⟩ := hb
  refine ⟨_, pe_andT pa pb, fun e ρ τ σ H Hs Q o q => ra e ρ τ σ H Hs _ o (Post.bind q fun x ρ1 _ v H1 Hs1 o1 q1 => ?_)⟩
  obtain ⟨f, rv⟩ := o1.top
  have rv := rv.now o1.sub
  split at q1
  · rename_i h
    exact ⟨true, truD k.hk rv h, iteT (rb e ρ1 τ σ H1 Hs1 Q o1.drop q1)⟩
  · rename_i h
    exact ⟨false, truD k.hk rv h, iteF (q1 v H1 Hs1 o1)⟩
  · exact q1.elim
theorem cj_or {es : List Expr} (k : Cp X g c) (ha : CJ X g W fa e1) (hb : CJ X g W fb (.BoolOp .Or (e2 :: es) pos)) :
    CJ X g W (fun ρ => bindR (fa ρ) fun x ρ1 => match x.d.tru with | some true => some (.ok x ρ1) | some false => fb ρ1 | none => none) (.BoolOp .Or (e1 :: e2 :: es) pos) := by
  obtain ⟨ta, pa, ra⟩ := ha
  obtain ⟨tb, pb, rb⟩ := hb
  refine ⟨_, pe_orT pa pb, fun e ρ τ σ H Hs Q o q => ra e ρ τ σ H Hs _ o (Post.bind q fun x ρ1 _ v H1 Hs1 o1 q1 => ?_)⟩
  obtain ⟨f, rv⟩ := o1.top
  have rv := rv.now o1.sub
  split at q1
  · rename_i h
    exact ⟨true, truD k.hk rv h, iteT (q1 v H1 Hs1 o1)⟩
  · rename_i h
    exact ⟨false, truD k.hk rv h, iteF (rb e ρ1 τ σ H1 Hs1 Q o1.drop q1)⟩
  · exact q1.elim
/-! list(range(..)) -/
def rgD (a b : Int) : Option T := if -(2 ^ 62) ≤ a ∧ a < 2 ^ 62 ∧ -(2 ^ 62) ≤ b ∧ b < 2 ^ 62 ∧ (b - a).toNat ≤ 2 ^ 24 then some (.lst ((rngL a 1 (b - a).toNat).map T.fz)) else none
theorem rgV_rng (a : Int) : ∀ (n : Nat), ∃ ns : List Int, (List.range n).map (fun i => V.int (a + (i : Nat))) = ns.map V.int ∧ (rngL a 1 n).map T.fz = ns.map (fun n => T.fz (.int n)) := by
  intro n
  refine ⟨(List.range n).map (fun i => a + (i : Nat)), by rw [List.map_map]; rfl, ?_⟩
  induction n generalizing a with
  | zero => rfl
  | succ n ih =>
    rw [rngL, List.map_cons, ih (a + 1), List.range_succ_eq_map, List.map_cons, List.map_map, List.map_cons, List.map_map]
    congr 1
    · simp
    · rw [List.map_map]
      refine List.map_congr_left fun j _ => ?_
      simp only [Function.comp]
      congr 2
      omega
theorem rg_fin {e : Fr0} {ρ : Sl} {τ : Tm} {σ : L2.St} {H Hs : Hp} {a b : Int} {t : T} {q : Addr} (o : Ok g e ρ τ σ H Hs) (h : rgD a b = some t) (hq : H q = none) : RgOk a b ∧ Ok g e ρ (([.ref q], [t]) :: τ) σ (upd H q (.lst (rgV a b))) Hs := by
  unfold rgD at h
  split at h <;> (try (cases h; done))
  rename_i hb
  cases h
  refine ⟨hb, ?_⟩
  obtain ⟨ns, h1, h2⟩ := rgV_rng a (b - a).toNat
  unfold rgV
  rw [h1, h2]
  exact (o.fzInts ns).newList hq
theorem cj_lrng1 (k : Cp X g c) (h1 : glB c "list" = true) (h2 : glB c "range" = true) (hs : starB e1 = false) (ha : CJ X g W fa e1) :
    CJ X g W (fun ρ => bindR (fa ρ) fun t ρ1 => okR ((intD t.d).bind fun n => rgD 0 n) ρ1) (.Call (.Name "list" p1) [.Call (.Name "range" p2) [e1] [] p3] [] pos) := by
  obtain ⟨ta, pa, ra⟩ := ha
  refine ⟨_, pe_listRg k.calm (k.gl h1) (k.bn _ (by decide)) (prg_1 (k.gl h2) (k.bn _ (by decide)) pa (star_cons hs)) (star_cons rfl), fun e ρ τ σ H Hs Q o q => ?_⟩
  refine ra e ρ τ σ H Hs _ o (Post.bind q fun t ρ1 _ v H1 Hs1 o1 q1 => ?_)
  obtain ⟨u, hu, q2⟩ := q1.okR
  simp only [Option.bind_eq_some_iff] at hu
  obtain ⟨n, hn, hu⟩ := hu
  obtain ⟨f, rv⟩ := o1.top
  have rv := rv.now o1.sub
  have hv : v = .int n := by
    unfold intD at hn
    split at hn <;> (try (cases hn; done))
    rename_i hd
    cases hn
    rw [hd] at rv
    simpa only [Rep] using rv
  subst hv
  refine ⟨n, rfl, ?_, fun p hp => ?_⟩
  · unfold rgD at hu
    split at hu <;> (try (cases hu; done))
    rename_i hb
    exact hb
  · exact q2 _ _ _ (rg_fin o1.drop hu hp).2
theorem cj_lrng2 (k : Cp X g c) (h1 : glB c "list" = true) (h2 : glB c "range" = true) (hs : starB e1 = false) (hs2 : starB e2 = false) (ha : CJ X g W fa e1) (hb : CJ X g W fb e2) :
    CJ X g W (fun ρ => bindR (fa ρ) fun t ρ1 => bindR (fb ρ1) fun u ρ2 => okR ((intD t.d).bind fun n => (intD u.d).bind fun m => rgD n m) ρ2) (.Call (.Name "list" p1) [.Call (.Name "range" p2) [e1, e2] [] p3] [] pos) := by
  obtain ⟨ta, pa, ra⟩ := ha
  obtain ⟨tb, pb, rb⟩ := hb
  refine ⟨_, pe_listRg k.calm (k.gl h1) (k.bn _ (by decide)) (prg_2 (k.gl h2) (k.bn _ (by decide)) pa pb (star_cons hs) (star_cons hs2) (star_none fun x hx => by rw [List.mem_singleton] at hx; subst hx; exact hs2)) (star_cons rfl), fun e ρ τ σ H Hs Q o q => ?_⟩
  refine ra e ρ τ σ H Hs _ o (Post.bind q fun t ρ1 _ v H1 Hs1 o1 q1 => ?_)
  refine rb e ρ1 _ σ H1 Hs1 _ o1 (Post.bindD q1 fun u ρ2 _ w H2 Hs2 o2 q2 => ?_)
  obtain ⟨r, hu, q3⟩ := q2.okR
  simp only [Option.bind_eq_some_iff] at hu
  obtain ⟨n, hn, m, hm, hu⟩ := hu
  have key : ∀ {v : V} {t : T} {n : Int} {τ : Tm}, Ok g e ρ2 (([v], [t]) :: τ) σ H2 Hs2 → intD t.d = some n → v = .int n := by
    intro v t n τ o hn
    obtain ⟨f, rv⟩ := o.top
    have rv := rv.now o.sub
    unfold intD at hn
    split at hn <;> (try (cases hn; done))
    rename_i hd
    cases hn
    rw [hd] at rv
    simpa only [Rep] using rv
  obtain rfl := key o2 hm
  obtain rfl := key o2.swap hn
  refine ⟨n, m, rfl, rfl, ?_, fun p hp => ?_⟩
  · unfold rgD at hu
    split at hu <;> (try (cases hu; done))
    rename_i hb
    exact hb
  · exact q3 _ _ _ (rg_fin o2.drop.drop hu hp).2
end
/-! a loop over a list that stays one's own -/
def endB (i : Nat) (t : T) : Option Fl → Option Fl
  | some (.nx ρ) => some (.nx (ρ.set i (some t)))
  | r => r
def forBF (i : Nat) (st : T → Sl → Option Sl) (fb : Sl → Option Fl) (ρ : Sl) : Option Fl :=
  match ρ[i]? with
  | some (some (.lst ts)) => match allFz ts with
    | some ds => endB i (.lst ts) (forF st fb ds (ρ.set i none))
    | none => none
  | _ => none
def Fr0.pin (e : Fr0) (p : Nat × V) : Fr0 := ⟨e.H, e.S, e.F, p :: e.P⟩
def Cxt.pin (c : Cxt) (i : Nat) : Cxt := { c with prot := i :: c.prot }
section
variable {g : Gx} {e : Fr0} {ρ : Sl} {τ : Tm} {σ : L2.St} {H Hs : Hp}
theorem Ok.pin (o : Ok g e ρ τ σ H Hs) {p : Nat × V} (h : σ[p.1]? = some (some p.2)) : Ok g (e.pin p) ρ τ σ H Hs :=
  ⟨o.sub, o.sub0, o.new, o.frame, o.there, fun q hq => by
    rcases List.mem_cons.mp hq with rfl | hq
    · exact h
    · exact o.fix q hq, o.own⟩
theorem Ok.unpin {p : Nat × V} (o : Ok g (e.pin p) ρ τ σ H Hs) : Ok g e ρ τ σ H Hs := ⟨o.sub, o.sub0, o.new, o.frame, o.there, fun q hq => o.fix q (List.mem_cons_of_mem _ hq), o.own⟩
theorem Ok.unpinBack {i : Nat} {v : V} {t : T} (o : Ok g (e.pin (i, v)) ρ (([v], [t]) :: τ) σ H Hs) : Ok g e (ρ.set i (some t)) τ σ H Hs :=
  (Ok.back o (o.fix (i, v) (List.mem_cons_self ..))).unpin
theorem Ok.lstItems {v : V} {ts : List T} {ds : List D} (o : Ok g e ρ (([v], [.lst ts]) :: τ) σ H Hs) (h : allFz ts = some ds) : ∃ a vs, v = .ref a ∧ H a = some (.lst vs) ∧ Reps g Hs ds vs := by
  obtain ⟨f, r⟩ := o.top
  simp only [RepT] at r
  obtain ⟨a, vs, f', rfl, ha, _, r⟩ := r
  exact ⟨a, vs, rfl, ha, (allFz_rep h r).1⟩
end
theorem Cp.pin {X : Cx} {g : Gx} {c : Cxt} (k : Cp X g c) (i : Nat) : Cp X g (c.pin i) := ⟨k.N, k.nd, k.sc, k.calm, k.hk, k.hu, k.bn, k.kind, k.gd, k.fn, k.con⟩
theorem sj_forB {X : Cx} {g : Gx} {c : Cxt} {W : WX} {tg : Expr} {x : Str} {p pos : Pos} {i : Nat} {G : Tg} {fb : Sl → Option Fl} {body : List Stmt} (k : Cp X g c) (hpo : PassesOwn (model X.prog X.w) X.A X.env X.xe) (h1 : c.N[i]? = some x) (h2 : visB c x = true) (hg : GJ X g (c.pin i) G tg) (hb : SsJ X g (c.pin i) W fb body) :
    SJ X g c W (forBF i (stT G) fb) (.For tg (.Name x p) body [] pos) := by
  obtain ⟨v1, v2, v3⟩ := k.vis h2
  obtain ⟨gt, pg, rg⟩ := hg
  obtain ⟨tb, pb, rb⟩ := hb
  refine ⟨_, ps_for hpo k.calm (pi_list (pe_var (i := i) (by rw [k.N]; exact h1) v1 v2 v3)) pg pb (fun _ => rfl), fun e ρ τ σ H Hs D hp o q => ?_⟩
  unfold forBF at q
  split at q <;> (try exact q.elim)
  rename_i ts ht
  split at q <;> (try exact q.elim)
  rename_i ds hds
  obtain ⟨v, hv, o1⟩ := o.take ht
  have o1 := o1.pin (p := (i, v)) hv
  obtain ⟨a, vs, rfl, ha, _⟩ := o1.lstItems hds
  have hp' : PrOk (e.pin (i, .ref a)) (c.pin i) := fun p hm => by
    rcases List.mem_cons.mp hm with rfl | hm
    · exact List.mem_cons_self ..
    · exact List.mem_cons_of_mem _ (hp p hm)
  refine ⟨.ref a, hv, a, rfl, ⟨vs, SqL.of ha⟩, fun j m σ H => ∃ ρ Hs, j + m = ds.length ∧ Ok g (e.pin (i, .ref a)) ρ (([.ref a], [.lst ts]) :: τ) σ H Hs ∧ PostS g W e τ D (endB i (.lst ts) (forF (stT G) fb (ds.drop j) ρ)), ⟨ds.length, _, Hs, by omega, o1, q⟩, ?_⟩
  rintro j m σ H ⟨ρ, Hs, him, o, q⟩
  obtain ⟨a', vs, ea, ha, rs⟩ := o.lstItems hds
  cases ea
  cases hd : ds[j]? with
  | none =>
    have hj : j = ds.length := by
      have := List.getElem?_eq_none_iff.mp hd
      omega
    refine .inl ⟨⟨vs, SqL.of ha, by rw [rs.length, hj]; exact Nat.le_refl _⟩, ?_⟩
    rw [hj, List.drop_length] at q
    exact q σ H Hs o.unpinBack
  | some d =>
    have hj : j < ds.length := (List.getElem?_eq_some_iff.mp hd).1
    obtain ⟨w, hw, rw_⟩ := rs.at_ j d hd
    rw [List.drop_eq_getElem_cons hj] at q
    have hd' : ds[j] = d := (List.getElem?_eq_some_iff.mp hd).2
    rw [hd'] at q
    simp only [forF] at q
    refine .inr ⟨⟨vs, w, SqL.of ha, hw⟩, fun σ' H' => ∃ ρ Hs, Ok g (e.pin (i, .ref a)) ρ (([.ref a], [.lst ts]) :: τ) σ' H' Hs ∧ PostS g W e τ D (endB i (.lst ts) (forF (stT G) fb (ds.drop (j + 1)) ρ)), fun σ' H' ⟨ρ', Hs', o', q'⟩ => ⟨m - 1, by omega, ρ', Hs', by omega, o', q'⟩, fun y H' hy => ?_⟩
    obtain ⟨rfl, hy⟩ := hy
    have hy := hy vs (SqL.of ha)
    rw [hw] at hy
    cases hy
    have o2 := o.push rw_
    cases hst : stT G (.fz d) ρ with
    | none => rw [hst] at q; exact q.elim
    | some ρ2 =>
      rw [hst] at q
      simp only at q
      refine rg _ ρ _ σ H' Hs w (.fz d) _ hp' o2 ⟨ρ2, hst, fun σ2 _ o3 => rb _ ρ2 _ σ2 H' Hs _ hp' o3 ?_⟩
      cases h2 : fb ρ2 with
      | none => rw [h2] at q; exact q
      | some r2 =>
        rw [h2] at q
        cases r2 with
        | nx ρ3 => exact fun σ' H' Hs' o' => ⟨ρ3, Hs', o', q⟩
        | ct ρ3 => exact fun σ' H' Hs' o' => ⟨ρ3, Hs', o', q⟩
        | bk ρ3 => exact fun σ' H' Hs' o' => q σ' H' Hs' o'.unpinBack
        | ret t ρ3 => exact fun v σ' H' Hs' o' => q v σ' H' Hs' o'.swap.drop.unpin
        | ex c t ρ3 => exact fun v dx σ' H' Hs' o' hd => q v dx σ' H' Hs' o'.swap.drop.unpin hd
/-! ### a comprehension of two clauses -/
def lc2F (st : T → Sl → Option Sl) (ft : Sl → Option (Rs Bool)) (fi1 : Sl → Option (Rs (List D))) (st1 : T → Sl → Option Sl) (ft1 : Sl → Option (Rs Bool)) (fe : Sl → Option (Rs T)) (vs vs1 : List Nat) : List D → Sl → List T → Option (Rs (List T))
  | [], ρ, acc => some (.ok acc (wipeT ρ vs))
  | d :: ds, ρ, acc => match st (.fz d) ρ with
    | none => none
    | some ρ1 => match ft ρ1 with
      | some (.ok false ρ2) => lc2F st ft fi1 st1 ft1 fe vs vs1 ds (wipeT ρ2 vs) acc
      | some (.ok true ρ2) => match fi1 ρ2 with
        | some (.ok ds1 ρ3) => match lcF st1 ft1 fe vs1 ds1 (wipeT ρ3 vs1) acc with
          | some (.ok acc' ρ4) => lc2F st ft fi1 st1 ft1 fe vs vs1 ds (wipeT ρ4 vs) acc'
          | _ => none
        | _ => none
      | _ => none
section
variable {X : Cx} {g : Gx} {c : Cxt} {W : WX}
theorem wipe_sub {σ : L2.St} {vs vs1 : List Nat} (h : ∀ i ∈ vs1, i ∈ vs) : L2.wipe (L2.wipe σ vs1) vs = L2.wipe σ vs :=
  wipe_of_out (is := vs1) ⟨wipe_length σ vs1, fun j hj => wipe_out' hj⟩ h
theorem lc2_read {wi wi1 : TI} {G G1 : Tg} {gt gt1 : TG} {tt tt1 : TT} {te : TE} {ft ft1 : Sl → Option (Rs Bool)} {fe : Sl → Option (Rs T)} {fi fi1 : Sl → Option (Rs (List D))} {c' : Cxt} {vs vs1 : List Nat}
    (hv : ∀ i ∈ G.sl, i ∈ vs) (hv1 : ∀ i ∈ G1.sl, i ∈ vs1) (hs : ∀ i ∈ vs1, i ∈ vs)
    (ri : ∀ e ρ τ σ H Hs (R : It → Hp → Prop), Ok g e ρ τ σ H Hs → PostI g W e τ σ (fi ρ) R → wi σ H R)
    (rg : ∀ e ρ τ σ H Hs v t (Q : L2.St → Hp → Prop), PrOk e c' → Ok g e ρ (([v], [t]) :: τ) σ H Hs → (∃ ρ', stT G t ρ = some ρ' ∧ ∀ σ', SlOut G.sl σ σ' → Ok g e ρ' τ σ' H Hs → Q σ' H) → gt v σ H Q)
    (rt : ∀ e ρ τ σ H Hs (Q : Bool → Hp → Prop), Ok g e ρ τ σ H Hs → PostB g W0 e τ σ (ft ρ) Q → tt σ H Q)
    (ri1 : ∀ e ρ τ σ H Hs (R : It → Hp → Prop), Ok g e ρ τ σ H Hs → PostI g W0 e τ σ (fi1 ρ) R → wi1 σ H R)
    (rg1 : ∀ e ρ τ σ H Hs v t (Q : L2.St → Hp → Prop), PrOk e c' → Ok g e ρ (([v], [t]) :: τ) σ H Hs → (∃ ρ', stT G1 t ρ = some ρ' ∧ ∀ σ', SlOut G1.sl σ σ' → Ok g e ρ' τ σ' H Hs → Q σ' H) → gt1 v σ H Q)
    (rt1 : ∀ e ρ τ σ H Hs (Q : Bool → Hp → Prop), Ok g e ρ τ σ H Hs → PostB g W0 e τ σ (ft1 ρ) Q → tt1 σ H Q)
    (re : ∀ e ρ τ σ H Hs (Q : VK), Ok g e ρ τ σ H Hs → Post g W0 e τ σ one (fe ρ) Q → te σ H Q)
    {e : Fr0} {ρ : Sl} {τ : Tm} {σ : L2.St} {H Hs : Hp} {Q : VK} (o : Ok g e ρ τ σ H Hs)
    (q : Post g W e τ σ one (bindR (fi ρ) fun ds ρ1 => bindR (lc2F (stT G) ft fi1 (stT G1) ft1 fe vs vs1 ds (DL.wipeT ρ1 vs) []) fun ts ρ2 => some (.ok (.lst ts) ρ2)) Q) : tLc2 wi gt tt wi1 gt1 tt1 te vs vs1 σ H Q := by
  refine ri e ρ τ σ H Hs _ o ?_
  cases h : fi ρ with
  | none => rw [h] at q; exact q
  | some r =>
    rw [h] at q
    cases r with
    | ex c t ρ' => exact q
    | ok ds ρ1 =>
      intro J ks H1 S1 o1 gv D hD
      simp only [bindR] at q
      cases hr : lc2F (stT G) ft fi1 (stT G1) ft1 fe vs vs1 ds (DL.wipeT ρ1 vs) [] with
      | none => rw [hr] at q; exact q.elim
      | some rr =>
        rw [hr] at q
        have o1' := (o1.nilG.newList hD).np.wipe vs noP
        refine ⟨fun i m H => ∃ ρ ts Hs, i + m = ds.length ∧ Ok g e.np ρ (([.ref D], [.lst ts]) :: kG ks :: τ) (L2.wipe σ vs) H Hs ∧ lc2F (stT G) ft fi1 (stT G1) ft1 fe vs vs1 (ds.drop i) ρ ts = some rr, ⟨ds.length, _, [], S1, by omega, o1', hr⟩, ?_⟩
        rintro i m H ⟨ρ2, ts, Hs2, him, o2, q2⟩
        obtain ⟨g1, g2⟩ := gv i H Hs2 (o2.swap.kept) o2.sub
        cases hd : ds[i]? with
        | none =>
          have hi : i = ds.length := by
            have := List.getElem?_eq_none_iff.mp hd
            omega
          rw [hi, List.drop_length] at q2
          simp only [lc2F] at q2
          cases q2
          refine .inl ⟨g2 hi, ?_⟩
          refine q _ H Hs2 ?_
          exact (o2.swap.drop.unwipe wipe_idem noP).ofNp o.fix
        | some d =>
          have hi : i < ds.length := (List.getElem?_eq_some_iff.mp hd).1
          obtain ⟨g3, g4⟩ := g1 d hd
          rw [List.drop_eq_getElem_cons hi] at q2
          have hd' : ds[i] = d := (List.getElem?_eq_some_iff.mp hd).2
          rw [hd'] at q2
          refine .inr ⟨g3, fun H' => ∃ ρ ts Hs, Ok g e.np ρ (([.ref D], [.lst ts]) :: kG ks :: τ) (L2.wipe σ vs) H' Hs ∧ lc2F (stT G) ft fi1 (stT G1) ft1 fe vs vs1 (ds.drop (i + 1)) ρ ts = some rr, fun H' ⟨ρ', ts', Hs', o', q'⟩ => ⟨m - 1, by omega, ρ', ts', Hs', by omega, o', q'⟩, fun x H' hy => ?_⟩
          obtain ⟨Hs', k1, k2, k3, k4, rx⟩ := g4 x H' hy
          have ox := (o2.step k1 k2 k3 k4).push rx
          simp only [lc2F] at q2
          cases hst : stT G (.fz d) ρ2 with
          | none => rw [hst] at q2; cases q2
          | some ρ3 =>
            rw [hst] at q2
            simp only at q2
            refine rg _ ρ2 _ _ H' Hs' x (.fz d) _ npOk ox ⟨ρ3, hst, fun σ2 so o3 => ?_⟩
            have ew : L2.wipe σ2 vs = L2.wipe σ vs := by
              rw [wipe_of_out so hv, wipe_idem]
            have ew2 : L2.wipe σ2 vs = L2.wipe (L2.wipe σ vs) vs := by rw [ew, wipe_idem]
            refine ⟨ew, rt _ ρ3 _ σ2 H' Hs' _ o3 ?_⟩
            cases ht : ft ρ3 with
            | none => rw [ht] at q2; cases q2
            | some r1 =>
              rw [ht] at q2
              cases r1 with
              | ex c t ρ4 => cases q2
              | ok b ρ4 =>
                intro H3 Hs3 o4
                cases b with
                | false => exact iteF ⟨_, _, Hs3, o4.unwipe ew2 noP, q2⟩
                | true =>
                  refine iteT (ri1 _ ρ4 _ σ2 H3 Hs3 _ o4 ?_)
                  simp only at q2
                  cases hf : fi1 ρ4 with
                  | none => rw [hf] at q2; cases q2
                  | some r2 =>
                    rw [hf] at q2
                    cases r2 with
                    | ex c t ρ5 => cases q2
                    | ok ds1 ρ5 =>
                      intro J1 ks1 H4 Hs4 o5 gv1
                      simp only at q2
                      cases hr1 : lcF (stT G1) ft1 fe vs1 ds1 (DL.wipeT ρ5 vs1) ts with
                      | none => rw [hr1] at q2; cases q2
                      | some rr1 =>
                        rw [hr1] at q2
                        have o6 := o5.swap.wipe vs1 noP
                        refine ⟨fun j m H => ∃ ρ ts Hs, j + m = ds1.length ∧ Ok g e.np ρ (([.ref D], [.lst ts]) :: kG ks1 :: kG ks :: τ) (L2.wipe σ2 vs1) H Hs ∧ lcF (stT G1) ft1 fe vs1 (ds1.drop j) ρ ts = some rr1, ⟨ds1.length, _, ts, Hs4, by omega, o6, hr1⟩, ?_⟩
                        rintro j m1 H5 ⟨ρ6, ts1, Hs5, hjm, o7, q7⟩
                        obtain ⟨b1, b2⟩ := gv1 j H5 Hs5 (o7.swap.kept) o7.sub
                        cases hd1 : ds1[j]? with
                        | none =>
                          have hj : j = ds1.length := by
                            have := List.getElem?_eq_none_iff.mp hd1
                            omega
                          rw [hj, List.drop_length] at q7
                          simp only [lcF] at q7
                          cases q7
                          refine .inl ⟨b2 hj, ?_⟩
                          simp only at q2
                          refine ⟨_, _, Hs5, ?_, q2⟩
                          have o8 := o7.swap.drop
                          have o9 := o8.unwipe (σ := L2.wipe σ2 vs1) (vs := vs1) rfl noP
                          exact o9.unwipe (by rw [wipe_sub hs]; exact ew2) noP
                        | some d1 =>
                          have hj : j < ds1.length := (List.getElem?_eq_some_iff.mp hd1).1
                          obtain ⟨b3, b4⟩ := b1 d1 hd1
                          rw [List.drop_eq_getElem_cons hj] at q7
                          have hd1' : ds1[j] = d1 := (List.getElem?_eq_some_iff.mp hd1).2
                          rw [hd1'] at q7
                          refine .inr ⟨b3, fun H' => ∃ ρ ts Hs, Ok g e.np ρ (([.ref D], [.lst ts]) :: kG ks1 :: kG ks :: τ) (L2.wipe σ2 vs1) H' Hs ∧ lcF (stT G1) ft1 fe vs1 (ds1.drop (j + 1)) ρ ts = some rr1, fun H' ⟨ρ', ts', Hs', o', q'⟩ => ⟨m1 - 1, by omega, ρ', ts', Hs', by omega, o', q'⟩, fun x1 H6 hy1 => ?_⟩
                          obtain ⟨Hs6, c1, c2, c3, c4, rx1⟩ := b4 x1 H6 hy1
                          exact lc_walk hv1 noP npOk rg1 rt1 re ((o7.step c1 c2 c3 c4).push rx1) q7 fun ρ' ts' H' Hs' o' q' => ⟨ρ', ts', Hs', o', q'⟩
variable {tg iter elt tg1 iter1 : Expr} {pos : Pos} {scope : Scope}
theorem lc2_body {G G1 : Tg} {ft ft1 : Sl → Option (Rs Bool)} {fe : Sl → Option (Rs T)} {fi fi1 : Sl → Option (Rs (List D))} {own : List (Str × Nat)} {vs1 : List Nat} {ifs ifs1 : List Expr} (hv : (G.sl.all fun i => (own.map (·.2)).contains i) = true) (hv1 : (G1.sl.all fun i => vs1.contains i) = true) (hs1 : (vs1.all fun i => (own.map (·.2)).contains i) = true)
    (hi : IJ X g W tg fi iter) (hg : InBlk X scope fun Y => GJ Y g (c.inB scope) G tg) (ht : InBlk X scope fun Y => TsJ Y g W0 ft ifs) (hi1 : InBlk X scope fun Y => IJ Y g W0 tg1 fi1 iter1) (hg1 : InBlk X scope fun Y => GJ Y g (c.inB scope) G1 tg1) (ht1 : InBlk X scope fun Y => TsJ Y g W0 ft1 ifs1) (he : InBlk X scope fun Y => CJ Y g W0 fe elt) :
    ∃ wi gt tt wi1 gt1 tt1 te, PI X tg iter wi ∧ (∀ s H C cl fp, PG (X.blk s H scope (compEnvC scope cl C X.env) fp) tg gt) ∧ (∀ s H C cl fp, PTs (X.blk s H scope (compEnvC scope cl C X.env) fp) ifs tt) ∧ (∀ s H C cl fp, PI (X.blk s H scope (compEnvC scope cl C X.env) fp) tg1 iter1 wi1) ∧ (∀ s H C cl fp, PG (X.blk s H scope (compEnvC scope cl C X.env) fp) tg1 gt1) ∧ (∀ s H C cl fp, PTs (X.blk s H scope (compEnvC scope cl C X.env) fp) ifs1 tt1) ∧ (∀ s H C cl fp, PE (X.blk s H scope (compEnvC scope cl C X.env) fp) elt te) ∧
      ∀ e ρ τ σ H Hs (Q : VK), Ok g e ρ τ σ H Hs → Post g W e τ σ one (bindR (fi ρ) fun ds ρ1 => bindR (lc2F (stT G) ft fi1 (stT G1) ft1 fe (own.map (·.2)) vs1 ds (wipeT ρ1 (own.map (·.2))) []) fun ts ρ2 => some (.ok (.lst ts) ρ2)) Q → tLc2 wi gt tt wi1 gt1 tt1 te (own.map (·.2)) vs1 σ H Q := by
  obtain ⟨wi, pi, ri⟩ := hi
  refine ⟨wi, allG fun s H C cl fp => (hg s H C cl fp).choose, allT fun s H C cl fp => (ht s H C cl fp).choose, allI fun s H C cl fp => (hi1 s H C cl fp).choose, allG fun s H C cl fp => (hg1 s H C cl fp).choose, allT fun s H C cl fp => (ht1 s H C cl fp).choose, allE fun s H C cl fp => (he s H C cl fp).choose, pi,
    pg_all fun s H C cl fp => (hg s H C cl fp).choose_spec.1, pts_all fun s H C cl fp => (ht s H C cl fp).choose_spec.1, pi_all fun s H C cl fp => (hi1 s H C cl fp).choose_spec.1, pg_all fun s H C cl fp => (hg1 s H C cl fp).choose_spec.1, pts_all fun s H C cl fp => (ht1 s H C cl fp).choose_spec.1, pe_all fun s H C cl fp => (he s H C cl fp).choose_spec.1, fun e ρ τ σ H Hs Q o q => ?_⟩
  refine lc2_read (c' := c.inB scope) (fun i hi => ?_) (fun i hi => ?_) (fun i hi => ?_) ri (fun e ρ τ σ H Hs v t Q hp o q s H0 C cl fp => (hg s H0 C cl fp).choose_spec.2 e ρ τ σ H Hs v t Q hp o q) (fun e ρ τ σ H Hs Q o q s H0 C cl fp => (ht s H0 C cl fp).choose_spec.2 e ρ τ σ H Hs Q o q)
    (fun e ρ τ σ H Hs R o q s H0 C cl fp => (hi1 s H0 C cl fp).choose_spec.2 e ρ τ σ H Hs R o q) (fun e ρ τ σ H Hs v t Q hp o q s H0 C cl fp => (hg1 s H0 C cl fp).choose_spec.2 e ρ τ σ H Hs v t Q hp o q) (fun e ρ τ σ H Hs Q o q s H0 C cl fp => (ht1 s H0 C cl fp).choose_spec.2 e ρ τ σ H Hs Q o q)
    (fun e ρ τ σ H Hs Q o q s H0 C cl fp => (he s H0 C cl fp).choose_spec.2 e ρ τ σ H Hs Q o q) o q
  · exact List.contains_iff_mem.mp ((List.all_eq_true.mp hv) i hi)
  · exact List.contains_iff_mem.mp ((List.all_eq_true.mp hv1) i hi)
  · exact List.contains_iff_mem.mp ((List.all_eq_true.mp hs1) i hi)
theorem cj_lc2 {G G1 : Tg} {ft ft1 : Sl → Option (Rs Bool)} {fe : Sl → Option (Rs T)} {fi fi1 : Sl → Option (Rs (List D))} {own : List (Str × Nat)} {vs1 : List Nat} {ifs ifs1 : List Expr} (k : Cp X g c) (ok : blkC X.N X.env.scope scope own = true) (hv : (G.sl.all fun i => (own.map (·.2)).contains i) = true) (hv1 : (G1.sl.all fun i => vs1.contains i) = true) (hs1 : (vs1.all fun i => (own.map (·.2)).contains i) = true) (hs : ∀ x, foldedSetIterable iter X.env x = pure x) (hs2 : ∀ env x, foldedSetIterable iter1 env x = pure x)
    (hi : IJ X g W tg fi iter) (hg : InBlk X scope fun Y => GJ Y g (c.inB scope) G tg) (ht : InBlk X scope fun Y => TsJ Y g W0 ft ifs) (hi1 : InBlk X scope fun Y => IJ Y g W0 tg1 fi1 iter1) (hg1 : InBlk X scope fun Y => GJ Y g (c.inB scope) G1 tg1) (ht1 : InBlk X scope fun Y => TsJ Y g W0 ft1 ifs1) (he : InBlk X scope fun Y => CJ Y g W0 fe elt) :
    CJ X g W (fun ρ => bindR (fi ρ) fun ds ρ1 => bindR (lc2F (stT G) ft fi1 (stT G1) ft1 fe (own.map (·.2)) vs1 ds (wipeT ρ1 (own.map (·.2))) []) fun ts ρ2 => some (.ok (.lst ts) ρ2)) (.ListComp elt [⟨tg, iter, ifs, 0⟩, ⟨tg1, iter1, ifs1, 0⟩] scope pos) := by
  obtain ⟨wi, gt, tt, wi1, gt1, tt1, te, h1, h2, h3, h4, h5, h6, h7, h8⟩ := lc2_body hv hv1 hs1 hi hg ht hi1 hg1 ht1 he
  exact ⟨_, pe_lc2 k.calm k.nd h1 (blkOk_by ok) (fun i hi => List.contains_iff_mem.mp ((List.all_eq_true.mp hs1) i hi)) h2 h3 h4 h5 h6 h7 hs hs2, h8⟩
theorem sj_asgLc2 {G G1 : Tg} {ft ft1 : Sl → Option (Rs Bool)} {fe : Sl → Option (Rs T)} {fi fi1 : Sl → Option (Rs (List D))} {own : List (Str × Nat)} {vs1 : List Nat} {ifs ifs1 : List Expr} {i : Nat} {x : Str} {py spos : Pos} (k : Cp X g c) (ok : blkC X.N X.env.scope scope own = true) (hv : (G.sl.all fun i => (own.map (·.2)).contains i) = true) (hv1 : (G1.sl.all fun i => vs1.contains i) = true) (hs1 : (vs1.all fun i => (own.map (·.2)).contains i) = true) (hs : ∀ x, foldedSetIterable iter X.env x = pure x) (hs2 : ∀ env x, foldedSetIterable iter1 env x = pure x)
    (h1 : c.N[i]? = some x) (h2 : c.look.lookup x = some .local) (h3 : c.prot.contains i = false) (hl : (py.line == pos.line) = true) (ha : (scope.names.any fun (n, k) => n == x && (k == .local || k == .cell)) = false)
    (hi : IJ X g W tg fi iter) (hg : InBlk X scope fun Y => GJ Y g (c.inB scope) G tg) (ht : InBlk X scope fun Y => TsJ Y g W0 ft ifs) (hi1 : InBlk X scope fun Y => IJ Y g W0 tg1 fi1 iter1) (hg1 : InBlk X scope fun Y => GJ Y g (c.inB scope) G1 tg1) (ht1 : InBlk X scope fun Y => TsJ Y g W0 ft1 ifs1) (he : InBlk X scope fun Y => CJ Y g W0 fe elt) :
    SJ X g c W (fun ρ => bindE (bindR (fi ρ) fun ds ρ1 => bindR (lc2F (stT G) ft fi1 (stT G1) ft1 fe (own.map (·.2)) vs1 ds (wipeT ρ1 (own.map (·.2))) []) fun ts ρ2 => some (.ok (.lst ts) ρ2)) fun t ρ1 => if i < ρ1.length then some (.nx (ρ1.set i (some t))) else none) (.Assign [.Name x py] (.ListComp elt [⟨tg, iter, ifs, 0⟩, ⟨tg1, iter1, ifs1, 0⟩] scope pos) spos) := by
  obtain ⟨wi, gt, tt, wi1, gt1, tt1, te, p1, p2, p3, p4, p5, p6, p7, p8⟩ := lc2_body hv hv1 hs1 hi hg ht hi1 hg1 ht1 he
  have hx : X.env.scope.names.lookup x = some .local := by rw [k.sc]; exact h2
  refine ⟨_, ps_setLc2 (i := i) k.calm k.nd (by rw [k.N]; exact h1) hx (sw_true k.kind hx hl ha) p1 (blkOk_by ok) (fun i hi => List.contains_iff_mem.mp ((List.all_eq_true.mp hs1) i hi)) p2 p3 p4 p5 p6 p7 hs hs2, fun e ρ τ σ H Hs D hp o q => ?_⟩
  refine p8 e ρ τ σ H Hs _ o (PostS.bindE q fun x ρ1 _ v H1 Hs1 o1 q1 => ?_)
  split at q1
  · rename_i hi
    exact q1 _ H1 Hs1 (o1.store hi (hp.ne h3))
  · exact q1.elim
end
/-- x = e, x read in blocks of its own -/
theorem cell_swap {X : Cx} {g : Gx} {c : Cxt} (k : Cp X g c) {x : Str} {p : Pos} (h : c.look.lookup x = some .cell) (e : Expr) (l : Nat) : swapsWith e (some (.Name x p)) l X.env = pure false := by
  have ek : X.env.kindOf x = some .cell := (k.sc x).trans h
  have e2 : (X.env.kindOf x == some NameKind.local) = false := by rw [ek]; rfl
  cases e <;> first
    | rfl
    | (unfold swapsWith
       simp only [e2, Bool.and_false, Bool.false_and])
theorem sj_asgC {X : Cx} {g : Gx} {c : Cxt} {W : WX} {ex : Expr} {fa : Sl → Option (Rs T)} {pos : Pos} (k : Cp X g c) (hfn : X.fn = fun _ => true) {i : Nat} {x : Str} {p : Pos} (h1 : c.N[i]? = some x) (h2 : locB c x = true) (h4 : c.look.lookup x = some .cell) (h3 : c.prot.contains i = false) (ha : CJ X g W fa ex) :
    SJ X g c W (fun ρ => bindE (fa ρ) fun t ρ1 => if i < ρ1.length then some (.nx (ρ1.set i (some t))) else none) (.Assign [.Name x p] ex pos) := by
  obtain ⟨ta, pa, ra⟩ := ha
  refine ⟨_, ps_set (i := i) k.nd (by rw [k.N]; exact h1) (k.loc h2) pa (cell_swap k h4 _ _) (.inl (by rw [hfn])), fun e ρ τ σ H Hs D hp o q => ?_⟩
  refine ra e ρ τ σ H Hs _ o (PostS.bindE q fun x ρ1 _ v H1 Hs1 o1 q1 => ?_)
  split at q1
  · rename_i hi
    exact q1 _ H1 Hs1 (o1.store hi (hp.ne h3))
  · exact q1.elim
/-! displays with a star -/
def seqD : D → Option (List D)
  | .lst ds => some ds
  | .tup ds => some ds
  | _ => none
theorem aj_star {X : Cx} {g : Gx} {c : Cxt} {W : WX} {fa : Sl → Option (Rs T)} {e1 : Expr} {p : Pos} {es : List Expr} {fr : Sl → Option (Rs (List T))} (k : Cp X g c) (ha : CJ X g W fa e1) (hr : AJ X g W fr es) :
    AJ X g W (fun ρ => bindR (fa ρ) fun x ρ1 => match seqD x.d with | some ds => bindR (fr ρ1) fun xs ρ2 => some (.ok (ds.map T.fz ++ xs) ρ2) | none => none) (.Starred e1 p :: es) := by
  obtain ⟨ta, pa, ra⟩ := ha
  obtain ⟨tb, pb, rb⟩ := hr
  refine ⟨_, StX.pa_star pa pb, fun e ρ τ σ H Hs Q o q => ?_⟩
  refine ra e ρ τ σ H Hs _ o (Post.bind q fun x ρ1 _ v H1 Hs1 o1 q1 => ?_)
  obtain ⟨Hs2, _, o2⟩ := o1.freeze
  obtain ⟨f, r⟩ := o2.top
  cases hd : x.d <;> rw [hd] at q1 r <;> simp only [seqD] at q1 <;> try exact q1.elim
  · rename_i ds
    simp only [RepT, Rep] at r
    obtain ⟨⟨a, vs, rfl, sq, r⟩, _⟩ := r
    exact ⟨a, vs, rfl, .inl (k.hk ▸ Same.sqT o2.sub sq), rb e ρ1 _ σ H1 Hs2 _ (o2.drop.pushs r) (Post.bindD q1 fun xs ρ2 _ ws H2 Hs3 o3 q2 => q2 (vs ++ ws) H2 Hs3 o3.merge)⟩
  · rename_i ds
    simp only [RepT, Rep] at r
    obtain ⟨⟨a, vs, rfl, sq, r⟩, _⟩ := r
    exact ⟨a, vs, rfl, .inr (k.hk ▸ Same.sqL o2.sub (.inl sq)), rb e ρ1 _ σ H1 Hs2 _ (o2.drop.pushs r) (Post.bindD q1 fun xs ρ2 _ ws H2 Hs3 o3 q2 => q2 (vs ++ ws) H2 Hs3 o3.merge)⟩
end DL
namespace DL
open PySem PySem.Spec PyProof.Rows L2

/-! ### terms that are matched with the text -/
/-- a form of call of a def of the text -/
structure Cal where
  nm : Str
  n : Nat
  st : Option Nat
  ks : List Str
  idx : List Nat
  F : List T → Option Out
def Cal.sp (g : Gx) (a : Cal) : Sp := match a.st with
  | some m => spStar g a.F m
  | none => match a.ks with
    | [] => SpD g a.F
    | _ :: _ => fun vs => SpD g a.F (pickL a.idx vs)
structure Tab (X : Cx) (g : Gx) (tb : List Cal) : Prop where
  at_ : ∀ a ∈ tb, FnAtF X a.nm a.n a.ks (a.sp g)
/-- arguments that need no reckoning -/
inductive A1 where
  | b (p : P) | io (i : Nat)
mutual
inductive E where
  | p (a : P) | fzs (i : Nat) | mv (i : Nat) | fz (a : E)
  | bin (o : O2) (a b : E) | cmp (o : O2) (a b : E) | neg (a : E) | not (a : E) | ix (a b : E)
  | tup (es : Es) | lst (es : Es) | ife (t : B) (a b : E) | add (a b : E) | slice (a : E) (lo hi : Oe)
  | bf (b : Bf) (es : Es) | sset (a : E) | lrng1 (a : E) | lrng2 (a b : E)
  | call0 (j : Nat) | call (j : Nat) (vs : Vs) | callS (j : Nat) (vs : Vs) | callK0 (j : Nat) (ks : List P) | callK (j : Nat) (vs : List A1) (ks : List P)
  | mm0 (m : Mm) (a : Pt) | mm1 (m : Mm) (a : Pt) (q : P) | mm (m : Mm) (i : Nat) (es : Es)
  | lc (own : List (Str × Nat)) (G : Tg) (it : I) (t : Bs) (el : E) | and (a b : E) | or (a b : E)
  | lc2 (own : List (Str × Nat)) (vs1 : List Nat) (G : Tg) (it : I) (t : Bs) (G1 : Tg) (it1 : I) (t1 : Bs) (el : E) | lstS (ds : Ds) | tupS (ds : Ds)
inductive Oe where
  | none | some (a : E)
inductive Es where
  | nil | cons (a : E) (r : Es)
inductive Ds where
  | nil | cons (a : E) (r : Ds) | star (a : E) (r : Ds)
inductive Vs where
  | q (l : List A1) | c (a : E) (r : Vs) | bf (p : P) (r : Vs) | io (i : Nat) (r : Vs)
inductive B where
  | p (a : P) | val (a : E) | not (a : B) | and (a b : B) | or (a b : B) | cmp (o : O2) (a b : E) | ife (t a b : B)
inductive Bs where
  | nil | one (a : B)
inductive I where
  | lst (a : E) | tup (a : E) | str (a : E) | rng1 (a : E) | rng2 (a b : E) | rng3 (a b d : E) | rev (a : E) | enum (a : E) | zip (a b : E)
end
mutual
inductive S where
  | pass | brk | cont | ex (a : E) | ret (a : E) | retN | ife (t : B) (a b : Ss)
  | asg (i : Nat) (a : E) | asgC (i : Nat) (a : E) | aug (o : O2) (i : Nat) (a : E) | par2 (i j : Nat) (es : Es) | par3 (i j l : Nat) (es : Es) | tgt (G : Tg) (a : E)
  | whl (t : B) (b : Ss) | for_ (G : Tg) (it : I) (b : Ss) | set (a : Pt) (q : P) (v : E)
  | asgLc (i : Nat) (own : List (Str × Nat)) (G : Tg) (it : I) (t : Bs) (el : E) | asgLc2 (i : Nat) (own : List (Str × Nat)) (vs1 : List Nat) (G : Tg) (it : I) (t : Bs) (G1 : Tg) (it1 : I) (t1 : Bs) (el : E) | nev | kill (is : List Nat) (s : S) | forB (i : Nat) (G : Tg) (b : Ss)
inductive Ss where
  | nil | cons (a : S) (r : Ss) | nev
end
/-! what they make -/
def evV1 : List A1 → Sl → Option (List AV)
  | [] => fun _ => some []
  | .b p :: r => fun ρ => (evP p ρ).bind fun t => (evV1 r ρ).map fun avs => .bor t :: avs
  | .io i :: r => fun ρ => match ρ[i]? with
    | some (some _) => (evV1 r ρ).map fun avs => .io i :: avs
    | _ => none
def evKs : List P → Sl → Option (List T)
  | [] => fun _ => some []
  | p :: r => fun ρ => (evP p ρ).bind fun t => (evKs r ρ).map (t :: ·)
def pR (p : P) : Sl → Option (Rs T) := fun ρ => match evP p ρ with
  | some (.fz d) => some (.ok (.fz d) ρ)
  | _ => none
def fzsR (i : Nat) : Sl → Option (Rs T) := fun ρ => match ρ[i]? with
  | some (some t) => some (.ok (.fz t.d) (ρ.set i (some (.fz t.d))))
  | _ => none
def mvR (i : Nat) : Sl → Option (Rs T) := fun ρ => match ρ[i]? with
  | some (some t) => some (.ok t (ρ.set i none))
  | _ => none
def callR (a : Cal) (f : Sl → Option (Rs (List AV))) : Sl → Option (Rs T) := fun ρ => bindR (f ρ) fun avs ρ1 => if avs.length = a.n then callD a.F avs ρ1 else none
def callSR (a : Cal) (m : Nat) (f : Sl → Option (Rs (List AV))) : Sl → Option (Rs T) := fun ρ => bindR (f ρ) fun avs ρ1 => if avs.length = a.n then callSt a.F m avs ρ1 else none
def callK0R (a : Cal) (f : Sl → Option (List T)) : Sl → Option (Rs T) := fun ρ => match (f ρ).bind allFz with
  | some ds => if ds.length = a.ks.length then callD a.F (ownsA (pickL a.idx ds)) ρ else none
  | none => none
def callKR (a : Cal) (f1 : Sl → Option (List AV)) (f : Sl → Option (List T)) : Sl → Option (Rs T) := fun ρ => match (f1 ρ).bind allFzA, (f ρ).bind allFz with
  | some es, some ds => if es.length = a.n ∧ ds.length = a.ks.length then callD a.F (ownsA (pickL a.idx (es ++ ds))) ρ else none
  | _, _ => none
def lcR (vs : List Nat) (G : Tg) (fi : Sl → Option (Rs (List D))) (ft : Sl → Option (Rs Bool)) (fe : Sl → Option (Rs T)) : Sl → Option (Rs T) := fun ρ => bindR (fi ρ) fun ds ρ1 => bindR (lcF (stT G) ft fe vs ds (wipeT ρ1 vs) []) fun ts ρ2 => some (.ok (.lst ts) ρ2)
def lc2R (vs vs1 : List Nat) (G G1 : Tg) (fi : Sl → Option (Rs (List D))) (ft : Sl → Option (Rs Bool)) (fi1 : Sl → Option (Rs (List D))) (ft1 : Sl → Option (Rs Bool)) (fe : Sl → Option (Rs T)) : Sl → Option (Rs T) := fun ρ => bindR (fi ρ) fun ds ρ1 => bindR (lc2F (stT G) ft fi1 (stT G1) ft1 fe vs vs1 ds (wipeT ρ1 vs) []) fun ts ρ2 => some (.ok (.lst ts) ρ2)
def augR (o : O2) (i : Nat) (f : Sl → Option (Rs T)) : Sl → Option Fl := fun ρ => match ρ[i]? with
  | some (some (.fz d)) => bindE (f ρ) fun t ρ1 => match o2 o d t.d with
    | some d' => if i < ρ1.length then some (.nx (ρ1.set i (some (.fz d')))) else none
    | none => none
  | _ => none
def mm1R (m : Mm) (a : Pt) (q : P) : Sl → Option (Rs T) := fun ρ => match evP q ρ with
  | some (.fz d) => evMmP m a [.fz d] ρ
  | _ => none
def bfR (p : P) (fr : Sl → Option (Rs (List AV))) : Sl → Option (Rs (List AV)) := fun ρ => match evP p ρ with
  | some (.fz d) => bindR (fr ρ) fun avs ρ2 => some (.ok (.bor (.fz d) :: avs) ρ2)
  | _ => none
def ioR (i : Nat) (fr : Sl → Option (Rs (List AV))) : Sl → Option (Rs (List AV)) := fun ρ => match ρ[i]? with
  | some (some _) => bindR (fr ρ) fun avs ρ2 => some (.ok (.io i :: avs) ρ2)
  | _ => none
def andR (fa fb : Sl → Option (Rs T)) : Sl → Option (Rs T) := fun ρ => bindR (fa ρ) fun x ρ1 => match x.d.tru with | some true => fb ρ1 | some false => some (.ok x ρ1) | none => none
def orR (fa fb : Sl → Option (Rs T)) : Sl → Option (Rs T) := fun ρ => bindR (fa ρ) fun x ρ1 => match x.d.tru with | some true => some (.ok x ρ1) | some false => fb ρ1 | none => none
mutual
def evE (tb : List Cal) : E → Sl → Option (Rs T)
  | .p a => pR a
  | .fzs i => fzsR i
  | .mv i => mvR i
  | .fz a => fun ρ => bindR (evE tb a ρ) fun x ρ1 => some (.ok (.fz x.d) ρ1)
  | .bin o a b => fun ρ => bindR (evE tb a ρ) fun x ρ1 => bindR (evE tb b ρ1) fun y ρ2 => okR ((o2 o x.d y.d).map T.fz) ρ2
  | .cmp o a b => fun ρ => bindR (evE tb a ρ) fun x ρ1 => bindR (evE tb b ρ1) fun y ρ2 => okR ((o2 o x.d y.d).map T.fz) ρ2
  | .neg a => fun ρ => bindR (evE tb a ρ) fun x ρ1 => okR ((negD x.d).map T.fz) ρ1
  | .not a => fun ρ => bindR (evE tb a ρ) fun x ρ1 => okR ((x.d.tru.map fun b => D.bl (!b)).map T.fz) ρ1
  | .ix a b => fun ρ => bindR (evE tb a ρ) fun x ρ1 => bindR (evE tb b ρ1) fun y ρ2 => okR (((ixT x y.d).bind fzD).map T.fz) ρ2
  | .tup es => fun ρ => bindR (evEs tb es ρ) fun ts ρ1 => if ts.length ≤ sizeLine then some (.ok (tupT ts) ρ1) else none
  | .lst es => fun ρ => bindR (evEs tb es ρ) fun ts ρ1 => if ts.length ≤ sizeLine then some (.ok (.lst ts) ρ1) else none
  | .ife t a b => fun ρ => bindR (evB tb t ρ) fun k ρ1 => if k = true then evE tb a ρ1 else evE tb b ρ1
  | .add a b => fun ρ => bindR (evE tb a ρ) fun x ρ1 => bindR (evE tb b ρ1) fun y ρ2 => okR (addT x y) ρ2
  | .slice a lo hi => fun ρ => bindR (evE tb a ρ) fun x ρ1 => bindR (evOe tb lo ρ1) fun l ρ2 => bindR (evOe tb hi ρ2) fun h ρ3 => okR (sliceT x l h) ρ3
  | .bf b es => fun ρ => bindR (evEs tb es ρ) fun us ρ1 => okR (bfT b us) ρ1
  | .sset a => fun ρ => bindR (evE tb a ρ) fun t ρ1 => okR (ssetT t) ρ1
  | .lrng1 a => fun ρ => bindR (evE tb a ρ) fun t ρ1 => okR ((intD t.d).bind fun n => rgD 0 n) ρ1
  | .lrng2 a b => fun ρ => bindR (evE tb a ρ) fun t ρ1 => bindR (evE tb b ρ1) fun u ρ2 => okR ((intD t.d).bind fun n => (intD u.d).bind fun m => rgD n m) ρ2
  | .call0 j => match tb[j]? with
    | some a => fun ρ => callD a.F [] ρ
    | none => fun _ => none
  | .call j vs => match tb[j]? with
    | some a => callR a (evVs tb vs)
    | none => fun _ => none
  | .callS j vs => match tb[j]? with
    | some a => callSR a (a.st.getD 0) (evVs tb vs)
    | none => fun _ => none
  | .callK0 j ks => match tb[j]? with
    | some a => callK0R a (evKs ks)
    | none => fun _ => none
  | .callK j vs ks => match tb[j]? with
    | some a => callKR a (evV1 vs) (evKs ks)
    | none => fun _ => none
  | .mm0 m a => evMmP m a []
  | .mm1 m a q => mm1R m a q
  | .mm m i es => fun ρ => if lstAt i ρ = true then bindR (evEs tb es ρ) fun us ρ1 => evMm m i us ρ1 else none
  | .lc own G it t el => lcR (own.map (·.2)) G (evI tb it) (evBs tb t) (evE tb el)
  | .and a b => andR (evE tb a) (evE tb b)
  | .lc2 own vs1 G it t G1 it1 t1 el => lc2R (own.map (·.2)) vs1 G G1 (evI tb it) (evBs tb t) (evI tb it1) (evBs tb t1) (evE tb el)
  | .lstS ds => fun ρ => bindR (evDs tb ds ρ) fun ts ρ1 => if ts.length ≤ sizeLine then some (.ok (.lst ts) ρ1) else none
  | .tupS ds => fun ρ => bindR (evDs tb ds ρ) fun ts ρ1 => if ts.length ≤ sizeLine then some (.ok (tupT ts) ρ1) else none
  | .or a b => orR (evE tb a) (evE tb b)
def evOe (tb : List Cal) : Oe → Sl → Option (Rs (Option Int))
  | .none => fun ρ => some (.ok none ρ)
  | .some a => fun ρ => bindR (evE tb a ρ) fun x ρ1 => okR ((intD x.d).map some) ρ1
def evEs (tb : List Cal) : Es → Sl → Option (Rs (List T))
  | .nil => fun ρ => some (.ok [] ρ)
  | .cons a r => fun ρ => bindR (evE tb a ρ) fun x ρ1 => bindR (evEs tb r ρ1) fun xs ρ2 => some (.ok (x :: xs) ρ2)
def evDs (tb : List Cal) : Ds → Sl → Option (Rs (List T))
  | .nil => fun ρ => some (.ok [] ρ)
  | .cons a r => fun ρ => bindR (evE tb a ρ) fun x ρ1 => bindR (evDs tb r ρ1) fun xs ρ2 => some (.ok (x :: xs) ρ2)
  | .star a r => fun ρ => bindR (evE tb a ρ) fun x ρ1 => match seqD x.d with | some ds => bindR (evDs tb r ρ1) fun xs ρ2 => some (.ok (ds.map T.fz ++ xs) ρ2) | none => none
def evVs (tb : List Cal) : Vs → Sl → Option (Rs (List AV))
  | .q l => fun ρ => okR (evV1 l ρ) ρ
  | .c a r => fun ρ => bindR (evE tb a ρ) fun t ρ1 => bindR (evVs tb r ρ1) fun avs ρ2 => some (.ok (.own t :: avs) ρ2)
  | .bf p r => bfR p (evVs tb r)
  | .io i r => ioR i (evVs tb r)
def evB (tb : List Cal) : B → Sl → Option (Rs Bool)
  | .p a => fun ρ => okR (evT a ρ) ρ
  | .val a => fun ρ => bindR (evE tb a ρ) fun x ρ1 => okR x.d.tru ρ1
  | .not a => fun ρ => bindR (evB tb a ρ) fun b ρ1 => some (.ok (!b) ρ1)
  | .and a b => fun ρ => bindR (evB tb a ρ) fun k ρ1 => if k = true then evB tb b ρ1 else some (.ok false ρ1)
  | .or a b => fun ρ => bindR (evB tb a ρ) fun k ρ1 => if k = true then some (.ok true ρ1) else evB tb b ρ1
  | .cmp o a b => fun ρ => bindR (evE tb a ρ) fun x ρ1 => bindR (evE tb b ρ1) fun y ρ2 => okR ((o2 o x.d y.d).bind D.tru) ρ2
  | .ife t a b => fun ρ => bindR (evB tb t ρ) fun k ρ1 => if k = true then evB tb a ρ1 else evB tb b ρ1
def evBs (tb : List Cal) : Bs → Sl → Option (Rs Bool)
  | .nil => fun ρ => some (.ok true ρ)
  | .one a => evB tb a
def evI (tb : List Cal) : I → Sl → Option (Rs (List D))
  | .lst a => fun ρ => bindR (evE tb a ρ) fun t ρ1 => okR (lstD t.d) ρ1
  | .tup a => fun ρ => bindR (evE tb a ρ) fun t ρ1 => okR (tupD t.d) ρ1
  | .str a => fun ρ => bindR (evE tb a ρ) fun t ρ1 => okR (strD t.d) ρ1
  | .rng1 a => fun ρ => bindR (evE tb a ρ) fun t ρ1 => okR (rng1D t.d) ρ1
  | .rng2 a b => fun ρ => bindR (evE tb a ρ) fun t ρ1 => bindR (evE tb b ρ1) fun u ρ2 => okR (rng2D t.d u.d) ρ2
  | .rng3 a b d => fun ρ => bindR (evE tb a ρ) fun t ρ1 => bindR (evE tb b ρ1) fun u ρ2 => bindR (evE tb d ρ2) fun w ρ3 => okR (rng3D t.d u.d w.d) ρ3
  | .rev a => fun ρ => bindR (evE tb a ρ) fun t ρ1 => okR ((lstD t.d).map List.reverse) ρ1
  | .enum a => fun ρ => bindR (evE tb a ρ) fun t ρ1 => okR ((lstD t.d).map (enumL 0)) ρ1
  | .zip a b => fun ρ => bindR (evE tb a ρ) fun t ρ1 => bindR (evE tb b ρ1) fun u ρ2 => okR (zipD t.d u.d) ρ2
end
mutual
noncomputable def evS (tb : List Cal) : S → Sl → Option Fl
  | .pass => fun ρ => some (.nx ρ)
  | .brk => fun ρ => some (.bk ρ)
  | .cont => fun ρ => some (.ct ρ)
  | .ex a => fun ρ => bindE (evE tb a ρ) fun _ ρ1 => some (.nx ρ1)
  | .ret a => fun ρ => bindE (evE tb a ρ) fun t ρ1 => some (.ret t ρ1)
  | .retN => fun ρ => some (.ret (.fz .non) ρ)
  | .ife t a b => fun ρ => bindE (evB tb t ρ) fun k ρ1 => if k = true then evSs tb a ρ1 else evSs tb b ρ1
  | .asg i a => fun ρ => bindE (evE tb a ρ) fun t ρ1 => if i < ρ1.length then some (.nx (ρ1.set i (some t))) else none
  | .asgC i a => fun ρ => bindE (evE tb a ρ) fun t ρ1 => if i < ρ1.length then some (.nx (ρ1.set i (some t))) else none
  | .aug o i a => augR o i (evE tb a)
  | .par2 i j es => fun ρ => bindE (evEs tb es ρ) fun ts ρ1 => (storeG [i, j] ts ρ1).map Fl.nx
  | .par3 i j l es => fun ρ => bindE (evEs tb es ρ) fun ts ρ1 => (storeG [i, j, l] ts ρ1).map Fl.nx
  | .tgt G a => fun ρ => bindE (evE tb a ρ) fun t ρ1 => (stT G t ρ1).map Fl.nx
  | .whl t b => whileF (evB tb t) (evSs tb b)
  | .for_ G it b => fun ρ => bindE (evI tb it ρ) fun ds ρ1 => forF (stT G) (evSs tb b) ds ρ1
  | .set a q v => fun ρ => bindE (evE tb v ρ) fun t ρ1 => evSet a q t ρ1
  | .asgLc i own G it t el => fun ρ => bindE (lcR (own.map (·.2)) G (evI tb it) (evBs tb t) (evE tb el) ρ) fun t ρ1 => if i < ρ1.length then some (.nx (ρ1.set i (some t))) else none
  | .asgLc2 i own vs1 G it t G1 it1 t1 el => fun ρ => bindE (lc2R (own.map (·.2)) vs1 G G1 (evI tb it) (evBs tb t) (evI tb it1) (evBs tb t1) (evE tb el) ρ) fun t ρ1 => if i < ρ1.length then some (.nx (ρ1.set i (some t))) else none
  | .nev => fun _ => none
  | .kill is s => fun ρ => evS tb s (wipeT ρ is)
  | .forB i G b => forBF i (stT G) (evSs tb b)
noncomputable def evSs (tb : List Cal) : Ss → Sl → Option Fl
  | .nil => fun ρ => some (.nx ρ)
  | .cons a r => fun ρ => bindF (evS tb a ρ) (evSs tb r)
  | .nev => fun _ => none
end
/-! whether they are the text -/
def mtV1 (c : Cxt) : List A1 → List Expr → Bool
  | [], es => match es with
    | [] => true
    | _ => false
  | .b p :: r, es => match es with
    | e :: es => !starB e && mtP c p e && mtV1 c r es
    | _ => false
  | .io i :: r, es => match es with
    | .Name x _ :: es => c.N[i]? == some x && visB c x && mtV1 c r es
    | _ => false
def mtKs (c : Cxt) : List P → List Keyword → Bool
  | [], es => match es with
    | [] => true
    | _ => false
  | p :: r, es => match es with
    | ⟨_, e, _⟩ :: es => mtP c p e && mtKs c r es
    | _ => false
def noStar (es : List Expr) : Bool := es.all fun e => !starB e
def blkD (c : Cxt) (scope : Scope) (own : List (Str × Nat)) : Bool := blkC c.N { scope with names := c.look } scope own
def setE : Expr → Bool
  | .Set _ _ _ => true
  | _ => false
def bopB : Expr → Bool
  | .BoolOp _ _ _ => true | .UnaryOp .Not _ _ => true | .IfExp _ _ _ _ => true | .Compare _ _ _ _ => true | .NamedExpr _ _ _ => true
  | _ => false
mutual
def mtE (tb : List Cal) : E → Cxt → Expr → Bool
  | .p a, c, ex => mtP c a ex
  | .fzs i, c, ex => match ex with
    | .Name x _ => c.N[i]? == some x && visB c x
    | _ => false
  | .mv i, c, ex => match ex with
    | .Name x _ => c.N[i]? == some x && visB c x
    | _ => false
  | .fz a, c, ex => mtE tb a c ex
  | .bin o a b, c, ex => match ex with
    | .BinOp e1 op e2 _ => o.bin == some op && mtE tb a c e1 && mtE tb b c e2
    | _ => false
  | .cmp o a b, c, ex => match ex with
    | .Compare e1 [op] [e2] _ => o.bin == none && o.cmp == some op && !setB e2 && mtE tb a c e1 && mtE tb b c e2
    | _ => false
  | .neg a, c, ex => match ex with
    | .UnaryOp .USub e _ => mtE tb a c e
    | _ => false
  | .not a, c, ex => match ex with
    | .UnaryOp .Not e _ => mtE tb a c e
    | _ => false
  | .ix a b, c, ex => match ex with
    | .Subscript e1 e2 _ => !slB e2 && mtE tb a c e1 && mtE tb b c e2
    | _ => false
  | .tup es, c, ex => match ex with
    | .Tuple xs _ _ => mtEs tb es c xs
    | _ => false
  | .lst es, c, ex => match ex with
    | .List xs _ => mtEs tb es c xs
    | _ => false
  | .ife t a b, c, ex => match ex with
    | .IfExp e1 e2 e3 _ => mtB tb t c e1 && mtE tb a c e2 && mtE tb b c e3
    | _ => false
  | .add a b, c, ex => match ex with
    | .BinOp e1 .Add e2 _ => mtE tb a c e1 && mtE tb b c e2
    | _ => false
  | .slice a lo hi, c, ex => match ex with
    | .Subscript e1 (.Slice l h none _) _ => mtE tb a c e1 && mtOe tb lo c l && mtOe tb hi c h
    | _ => false
  | .bf b es, c, ex => match ex with
    | .Call (.Name f _) (x :: xs) [] _ => f == b.nm && glB c f && mtEs tb es c (x :: xs)
    | _ => false
  | .sset a, c, ex => match ex with
    | .Call (.Name f _) [.Call (.Name h _) [e] [] _] [] _ => f == ("sorted" : Str) && h == ("set" : Str) && glB c f && glB c h && !starB e && mtE tb a c e
    | _ => false
  | .lrng1 a, c, ex => match ex with
    | .Call (.Name f _) [.Call (.Name h _) [e] [] _] [] _ => f == ("list" : Str) && h == ("range" : Str) && glB c f && glB c h && !starB e && mtE tb a c e
    | _ => false
  | .lrng2 a b, c, ex => match ex with
    | .Call (.Name f _) [.Call (.Name h _) [e, e'] [] _] [] _ => f == ("list" : Str) && h == ("range" : Str) && glB c f && glB c h && !starB e && !starB e' && mtE tb a c e && mtE tb b c e'
    | _ => false
  | .call0 j, c, ex => match ex with
    | .Call (.Name f _) [] [] _ => match tb[j]? with
      | some a => f == a.nm && a.n == 0 && a.st == none && a.ks == [] && glB c f && f != "__debug__"
      | none => false
    | _ => false
  | .call j vs, c, ex => match ex with
    | .Call (.Name f _) (x :: xs) [] _ => match tb[j]? with
      | some a => f == a.nm && a.st == none && a.ks == [] && glB c f && f != "__debug__" && noStar (x :: xs) && mtVs tb vs c (x :: xs)
      | none => false
    | _ => false
  | .callS j vs, c, ex => match ex with
    | .Call (.Name f _) (x :: xs) [] _ => match tb[j]? with
      | some a => f == a.nm && a.st.isSome && a.ks == [] && glB c f && f != "__debug__" && noStar (x :: xs) && mtVs tb vs c (x :: xs)
      | none => false
    | _ => false
  | .callK0 j ks, c, ex => match ex with
    | .Call (.Name f _) [] (q :: kws) _ => match tb[j]? with
      | some a => f == a.nm && a.n == 0 && a.st == none && glB c f && f != "__debug__" && decide ((q :: kws).map (fun q => q.arg) = a.ks.map some) && mtKs c ks (q :: kws)
      | none => false
    | _ => false
  | .callK j vs ks, c, ex => match ex with
    | .Call (.Name f _) (x :: xs) (q :: kws) _ => match tb[j]? with
      | some a => f == a.nm && a.st == none && glB c f && f != "__debug__" && noStar (x :: xs) && decide ((q :: kws).map (fun q => q.arg) = a.ks.map some) && mtV1 c vs (x :: xs) && mtKs c ks (q :: kws)
      | none => false
    | _ => false
  | .mm0 m a, c, ex => match ex with
    | .Call (.Attribute o nm ap) [] [] cp => nm == m.nm && mtPt c a o && ap.endLine == cp.line
    | _ => false
  | .mm1 m a q, c, ex => match ex with
    | .Call (.Attribute o nm ap) [x] [] cp => nm == m.nm && mtPt c a o && mtP c q x && !starB x && ap.endLine == cp.line
    | _ => false
  | .mm m i es, c, ex => match ex with
    | .Call (.Attribute (.Name y _) nm ap) (x :: xs) [] cp => nm == m.nm && c.N[i]? == some y && visB c y && decide (xs.length < 25) && mtEs tb es c (x :: xs) && ap.endLine == cp.line
    | _ => false
  | .lc own G it t el, c, ex => match ex with
    | .ListComp elt [⟨tg, iter, ifs, 0⟩] scope _ => blkD c scope own && (G.sl.all fun i => (own.map (·.2)).contains i) && !setE iter && mtI tb it c tg iter && mtG (c.inB scope) G tg && mtBs tb t (c.inB scope) ifs && mtE tb el (c.inB scope) elt
    | _ => false
  | .lc2 own vs1 G it t G1 it1 t1 el, c, ex => match ex with
    | .ListComp elt [⟨tg, iter, ifs, 0⟩, ⟨tg1, iter1, ifs1, 0⟩] scope _ => blkD c scope own && (G.sl.all fun i => (own.map (·.2)).contains i) && (G1.sl.all fun i => vs1.contains i) && (vs1.all fun i => (own.map (·.2)).contains i) && !setE iter && !setE iter1 && mtI tb it c tg iter && mtG (c.inB scope) G tg && mtBs tb t (c.inB scope) ifs && mtI tb it1 (c.inB scope) tg1 iter1 && mtG (c.inB scope) G1 tg1 && mtBs tb t1 (c.inB scope) ifs1 && mtE tb el (c.inB scope) elt
    | _ => false
  | .lstS ds, c, ex => match ex with
    | .List xs _ => mtDs tb ds c xs
    | _ => false
  | .tupS ds, c, ex => match ex with
    | .Tuple xs _ _ => mtDs tb ds c xs
    | _ => false
  | .and a b, c, ex => match ex with
    | .BoolOp .And [e1, e2] _ => mtE tb a c e1 && mtE tb b c e2
    | .BoolOp .And (e1 :: e2 :: e3 :: es) pos => mtE tb a c e1 && mtE tb b c (.BoolOp .And (e2 :: e3 :: es) pos)
    | _ => false
  | .or a b, c, ex => match ex with
    | .BoolOp .Or [e1, e2] _ => mtE tb a c e1 && mtE tb b c e2
    | .BoolOp .Or (e1 :: e2 :: e3 :: es) pos => mtE tb a c e1 && mtE tb b c (.BoolOp .Or (e2 :: e3 :: es) pos)
    | _ => false
def mtOe (tb : List Cal) : Oe → Cxt → Option Expr → Bool
  | .none, c, ex => match ex with
    | none => true
    | some _ => false
  | .some a, c, ex => match ex with
    | some e => mtE tb a c e
    | none => false
def mtEs (tb : List Cal) : Es → Cxt → List Expr → Bool
  | .nil, c, es => match es with
    | [] => true
    | _ => false
  | .cons a r, c, es => match es with
    | e :: es => !starB e && mtE tb a c e && mtEs tb r c es
    | _ => false
def mtDs (tb : List Cal) : Ds → Cxt → List Expr → Bool
  | .nil, c, es => match es with
    | [] => true
    | _ => false
  | .cons a r, c, es => match es with
    | e :: es => !starB e && mtE tb a c e && mtDs tb r c es
    | _ => false
  | .star a r, c, es => match es with
    | .Starred e _ :: es => mtE tb a c e && mtDs tb r c es
    | _ => false
def mtVs (tb : List Cal) : Vs → Cxt → List Expr → Bool
  | .q l, c, es => mtV1 c l es
  | .c a r, c, es => match es with
    | e :: es => !starB e && mtE tb a c e && mtVs tb r c es
    | _ => false
  | .bf p r, c, es => match es with
    | e :: es => !starB e && mtP c p e && mtVs tb r c es
    | _ => false
  | .io i r, c, es => match es with
    | .Name x _ :: es => c.N[i]? == some x && visB c x && mtVs tb r c es
    | _ => false
def mtB (tb : List Cal) : B → Cxt → Expr → Bool
  | .p a, c, ex => mtP c a ex
  | .val a, c, ex => !bopB ex && mtE tb a c ex
  | .not a, c, ex => match ex with
    | .UnaryOp .Not e _ => mtB tb a c e
    | _ => false
  | .and a b, c, ex => match ex with
    | .BoolOp .And [e1, e2] _ => mtB tb a c e1 && mtB tb b c e2
    | .BoolOp .And (e1 :: e2 :: e3 :: es) pos => mtB tb a c e1 && mtB tb b c (.BoolOp .And (e2 :: e3 :: es) pos)
    | _ => false
  | .or a b, c, ex => match ex with
    | .BoolOp .Or [e1, e2] _ => mtB tb a c e1 && mtB tb b c e2
    | .BoolOp .Or (e1 :: e2 :: e3 :: es) pos => mtB tb a c e1 && mtB tb b c (.BoolOp .Or (e2 :: e3 :: es) pos)
    | _ => false
  | .cmp o a b, c, ex => match ex with
    | .Compare e1 [op] [e2] _ => o.bin == none && o.cmp == some op && !setB e2 && mtE tb a c e1 && mtE tb b c e2
    | _ => false
  | .ife t a b, c, ex => match ex with
    | .IfExp e1 e2 e3 _ => mtB tb t c e1 && mtB tb a c e2 && mtB tb b c e3
    | _ => false
def mtBs (tb : List Cal) : Bs → Cxt → List Expr → Bool
  | .nil, c, es => match es with
    | [] => true
    | _ => false
  | .one a, c, es => match es with
    | [e] => mtB tb a c e
    | _ => false
def mtI (tb : List Cal) : I → Cxt → Expr → Expr → Bool
  | .lst a, c, tg, ex => mtE tb a c ex
  | .tup a, c, tg, ex => mtE tb a c ex
  | .str a, c, tg, ex => mtE tb a c ex
  | .rng1 a, c, tg, ex => match ex with
    | .Call (.Name f _) [e1] [] _ => f == ("range" : Str) && glB c f && !starB e1 && mtE tb a c e1
    | _ => false
  | .rng2 a b, c, tg, ex => match ex with
    | .Call (.Name f _) [e1, e2] [] _ => f == ("range" : Str) && glB c f && !starB e1 && !starB e2 && mtE tb a c e1 && mtE tb b c e2
    | _ => false
  | .rng3 a b d, c, tg, ex => match ex with
    | .Call (.Name f _) [e1, e2, e3] [] _ => f == ("range" : Str) && glB c f && !starB e1 && !starB e2 && !starB e3 && mtE tb a c e1 && mtE tb b c e2 && mtE tb d c e3
    | _ => false
  | .rev a, c, tg, ex => match ex with
    | .Call (.Name f _) [e1] [] _ => f == ("reversed" : Str) && glB c f && !starB e1 && mtE tb a c e1
    | _ => false
  | .enum a, c, tg, ex => match tg, ex with
    | .Tuple _ _ _, .Call (.Name f _) [e1] [] _ => f == ("enumerate" : Str) && glB c f && !starB e1 && mtE tb a c e1
    | _, _ => false
  | .zip a b, c, tg, ex => match tg, ex with
    | .Tuple _ _ _, .Call (.Name f _) [e1, e2] [] _ => f == ("zip" : Str) && glB c f && !starB e1 && !starB e2 && mtE tb a c e1 && mtE tb b c e2
    | _, _ => false
end
mutual
def mtS (tb : List Cal) : S → Cxt → Stmt → Bool
  | .pass, c, st => match st with
    | .Pass _ => true
    | _ => false
  | .brk, c, st => match st with
    | .Break _ => true
    | _ => false
  | .cont, c, st => match st with
    | .Continue _ => true
    | _ => false
  | .ex a, c, st => match st with
    | .Expr e _ => !compB e && mtE tb a c e
    | _ => false
  | .ret a, c, st => match st with
    | .Return (some e) _ => mtE tb a c e
    | _ => false
  | .retN, c, st => match st with
    | .Return none _ => true
    | _ => false
  | .ife t a b, c, st => match st with
    | .If e x y _ => mtB tb t c e && mtSs tb a c x && mtSs tb b c y
    | _ => false
  | .asg i a, c, st => match st with
    | .Assign [.Name x _] e _ => c.N[i]? == some x && locB c x && !c.prot.contains i && !compB e && mtE tb a c e
    | _ => false
  | .asgC i a, c, st => match st with
    | .Assign [.Name x _] e _ => c.N[i]? == some x && locB c x && c.look.lookup x == some .cell && !c.prot.contains i && mtE tb a c e
    | _ => false
  | .aug o i a, c, st => match st with
    | .AugAssign (.Name x _) op e _ => o.bin == some op && augB o && c.N[i]? == some x && locB c x && !c.prot.contains i && mtE tb a c e
    | _ => false
  | .par2 i j es, c, st => match st with
    | .Assign [.Tuple [.Name x px, .Name y py] _ _] (.Tuple [e1, e2] _ _) _ => c.N[i]? == some x && c.N[j]? == some y && i != j && loclB c x && loclB c y && !c.prot.contains i && !c.prot.contains j && py.line == px.line && x != y && parB [e1, e2] && mtEs tb es c [e1, e2]
    | _ => false
  | .par3 i j l es, c, st => match st with
    | .Assign [.Tuple [.Name x px, .Name y py, .Name z pz] _ _] (.Tuple [e1, e2, e3] _ _) _ => c.N[i]? == some x && c.N[j]? == some y && c.N[l]? == some z && i != j && i != l && j != l && loclB c x && loclB c y && loclB c z && !c.prot.contains i && !c.prot.contains j && !c.prot.contains l && py.line == px.line && pz.line == px.line && x != y && x != z && y != z && parB [e1, e2, e3] && mtEs tb es c [e1, e2, e3]
    | _ => false
  | .tgt G a, c, st => match st with
    | .Assign [tg] e _ => mtG c G tg && !starB tg && !compB e && (!tupB e || swB c tg e) && mtE tb a c e
    | _ => false
  | .whl t b, c, st => match st with
    | .While e x [] _ => mtB tb t c e && mtSs tb b c x
    | _ => false
  | .for_ G it b, c, st => match st with
    | .For tg iter x [] _ => !setE iter && mtI tb it c tg iter && mtG c G tg && mtSs tb b c x
    | _ => false
  | .set a q v, c, st => match st with
    | .Assign [.Subscript o i _] e _ => mtPt c a o && !slB i && mtP c q i && mtE tb v c e
    | _ => false
  | .asgLc i own G it t el, c, st => match st with
    | .Assign [.Name x py] (.ListComp elt [⟨tg, iter, ifs, 0⟩] scope pos) _ => blkD c scope own && (G.sl.all fun i => (own.map (·.2)).contains i) && !setE iter && c.N[i]? == some x && c.look.lookup x == some .local && !c.prot.contains i && py.line == pos.line && !(scope.names.any fun (n, k) => n == x && (k == .local || k == .cell)) && mtI tb it c tg iter && mtG (c.inB scope) G tg && mtBs tb t (c.inB scope) ifs && mtE tb el (c.inB scope) elt
    | _ => false
  | .asgLc2 i own vs1 G it t G1 it1 t1 el, c, st => match st with
    | .Assign [.Name x py] (.ListComp elt [⟨tg, iter, ifs, 0⟩, ⟨tg1, iter1, ifs1, 0⟩] scope pos) _ => blkD c scope own && (G.sl.all fun i => (own.map (·.2)).contains i) && (G1.sl.all fun i => vs1.contains i) && (vs1.all fun i => (own.map (·.2)).contains i) && !setE iter && !setE iter1 && c.N[i]? == some x && c.look.lookup x == some .local && !c.prot.contains i && py.line == pos.line && !(scope.names.any fun (n, k) => n == x && (k == .local || k == .cell)) && mtI tb it c tg iter && mtG (c.inB scope) G tg && mtBs tb t (c.inB scope) ifs && mtI tb it1 (c.inB scope) tg1 iter1 && mtG (c.inB scope) G1 tg1 && mtBs tb t1 (c.inB scope) ifs1 && mtE tb el (c.inB scope) elt
    | _ => false
  | .nev, c, st => true
  | .kill is s, c, st => mtS tb s c st
  | .forB i G b, c, st => match st with
    | .For tg (.Name x _) body [] _ => c.N[i]? == some x && visB c x && mtG (c.pin i) G tg && mtSs tb b (c.pin i) body
    | _ => false
def mtSs (tb : List Cal) : Ss → Cxt → List Stmt → Bool
  | .nil, c, st => match st with
    | [] => true
    | _ => false
  | .cons a r, c, st => match st with
    | s :: st => mtS tb a c s && mtSs tb r c st
    | _ => false
  | .nev, c, st => true
end
end DL
namespace DL
open PySem PySem.Spec PyProof.Rows L2

/-! ### the terms are right -/
section
variable {g : Gx} {tb : List Cal}
theorem blkD_ok {X : Cx} {c : Cxt} {scope : Scope} {own : List (Str × Nat)} (k : Cp X g c) (h : blkD c scope own = true) : blkC X.N X.env.scope scope own = true := by
  unfold blkD blkC at h
  unfold blkC
  rw [k.N]
  simp only [k.sc]
  exact h
theorem Tab.blk {X : Cx} (t : Tab X g tb) (s : Shared) (H : Hp) (scope : Scope) (cenv : Env) (fp : List Addr) : Tab (X.blk s H scope cenv fp) g tb := ⟨fun a ha => ⟨(t.at_ a ha).ex⟩⟩
theorem noSet {ex : Expr} {env : Env} (h : setE ex = false) : ∀ x, foldedSetIterable ex env x = pure x := by
  intro x
  cases ex <;> first | rfl | (simp [setE] at h; done)
theorem noBop {ex : Expr} {env : Env} (h : bopB ex = false) : ∀ whole, isTrue ex env whole = (do let v ← whole; standAt ex.pos; holding [v] (truthy v)) := by
  intro w
  cases ex <;> first
    | rfl
    | (simp [bopB] at h; done)
    | (rename_i op e pos; cases op <;> first | rfl | (simp [bopB] at h; done))
theorem noStar_ok {es : List Expr} (h : noStar es = true) : ∀ e ∈ es, starB e = false := fun e he => by
  have := (List.all_eq_true.mp h) e he
  simpa using this
theorem wbj_p {X : Cx} {W : WX} {p : P} {ex : Expr} (h : WJ X g (evT p) ex) : WBJ X g W (fun ρ => okR (evT p ρ) ρ) ex := by
  obtain ⟨te, pe, r⟩ := h
  refine ⟨te, pe, fun e ρ τ σ H Hs Q o q => ?_⟩
  dsimp only at q
  cases h : evT p ρ with
  | none => rw [h] at q; exact q.elim
  | some b =>
    rw [h] at q
    obtain ⟨O, vw⟩ := o.view
    exact r ρ σ H Hs O b vw h Q (q H Hs o)
theorem sndV1 {X : Cx} {c : Cxt} (k : Cp X g c) : ∀ (l : List A1) (es : List Expr), mtV1 c l es = true → VqJ X g (evV1 l) es
  | [], es, h => by
    unfold mtV1 at h
    split at h <;> (try (cases h; done))
    exact vqj_nil
  | .b p :: r, es, h => by
    unfold mtV1 at h
    split at h <;> (try (cases h; done))
    simp only [Bool.and_eq_true, Bool.not_eq_true'] at h
    exact vqj_b h.1.1 (soundP k p _ h.1.2).1 (sndV1 k r _ h.2)
  | .io i :: r, es, h => by
    unfold mtV1 at h
    split at h <;> (try (cases h; done))
    simp only [Bool.and_eq_true, beq_iff_eq] at h
    exact vqj_io k h.1.1 h.1.2 (sndV1 k r _ h.2)
theorem sndKs {X : Cx} {c : Cxt} (k : Cp X g c) : ∀ (l : List P) (es : List Keyword), mtKs c l es = true → KqJ X g (evKs l) es
  | [], es, h => by
    unfold mtKs at h
    split at h <;> (try (cases h; done))
    exact kqj_nil
  | p :: r, es, h => by
    unfold mtKs at h
    split at h <;> (try (cases h; done))
    simp only [Bool.and_eq_true] at h
    exact kqj_cons (soundP k p _ h.1).1 (sndKs k r _ h.2)
theorem nbug {f : Str} (h : (f != ("__debug__" : Str)) = true) : (f == ("__debug__" : Str)) = false := by
  simpa [bne] using h
theorem Tab.plain {X : Cx} (t : Tab X g tb) {j : Nat} {a : Cal} (h : tb[j]? = some a) (h1 : a.st = none) (h2 : a.ks = []) : FnAtF X a.nm a.n [] (SpD g a.F) := by
  have z := t.at_ a (List.mem_of_getElem? h)
  unfold Cal.sp at z
  rw [h1, h2] at z
  exact z
theorem Tab.star {X : Cx} (t : Tab X g tb) {j : Nat} {a : Cal} (h : tb[j]? = some a) (h1 : a.st.isSome = true) (h2 : a.ks = []) : FnAtF X a.nm a.n [] (spStar g a.F (a.st.getD 0)) := by
  have z := t.at_ a (List.mem_of_getElem? h)
  unfold Cal.sp at z
  cases e : a.st with
  | none => rw [e] at h1; cases h1
  | some m =>
    rw [e, h2] at z
    exact z
theorem Tab.kw {X : Cx} (t : Tab X g tb) {j : Nat} {a : Cal} {q : Keyword} {kws : List Keyword} (h : tb[j]? = some a) (h1 : a.st = none) (h2 : (q :: kws).map (fun q => q.arg) = a.ks.map some) : FnAtF X a.nm a.n a.ks (fun vs => SpD g a.F (pickL a.idx vs)) := by
  have z := t.at_ a (List.mem_of_getElem? h)
  unfold Cal.sp at z
  rw [h1] at z
  cases e : a.ks with
  | nil => rw [e] at h2; cases h2
  | cons b ks =>
    rw [e] at z
    rw [← e]
    rw [e]
    exact z
mutual
theorem sndE : ∀ (a : E) {X : Cx} {W : WX} {c : Cxt} (ex : Expr), Cp X g c → Takes X W → Tab X g tb → mtE tb a c ex = true → CJ X g W (evE tb a) ex
  | .p a, X, W, c, ex, k, tk, tt, h => by
    simp only [mtE] at h
    rw [evE]
    exact cj_p (soundP k a _ h).1
  | .fzs i, X, W, c, ex, k, tk, tt, h => by
    simp only [mtE] at h
    split at h <;> (try (cases h; done))
    simp only [Bool.and_eq_true, beq_iff_eq] at h
    rw [evE]
    exact cj_fzs k h.1 h.2
  | .mv i, X, W, c, ex, k, tk, tt, h => by
    simp only [mtE] at h
    split at h <;> (try (cases h; done))
    simp only [Bool.and_eq_true, beq_iff_eq] at h
    rw [evE]
    exact cj_mv k h.1 h.2
  | .fz a, X, W, c, ex, k, tk, tt, h => by
    simp only [mtE] at h
    rw [evE]
    exact cj_fz (sndE a _ k tk tt h)
  | .bin o a b, X, W, c, ex, k, tk, tt, h => by
    simp only [mtE] at h
    split at h <;> (try (cases h; done))
    simp only [Bool.and_eq_true, beq_iff_eq] at h
    rw [evE]
    exact cj_bin k h.1.1 (sndE a _ k tk tt h.1.2) (sndE b _ k tk tt h.2)
  | .cmp o a b, X, W, c, ex, k, tk, tt, h => by
    simp only [mtE] at h
    split at h <;> (try (cases h; done))
    simp only [Bool.and_eq_true, beq_iff_eq, Bool.not_eq_true'] at h
    rw [evE]
    exact cj_cmp k h.1.1.1.1 h.1.1.1.2 h.1.1.2 (sndE a _ k tk tt h.1.2) (sndE b _ k tk tt h.2)
  | .neg a, X, W, c, ex, k, tk, tt, h => by
    simp only [mtE] at h
    split at h <;> (try (cases h; done))
    rw [evE]
    exact cj_neg (sndE a _ k tk tt h)
  | .not a, X, W, c, ex, k, tk, tt, h => by
    simp only [mtE] at h
    split at h <;> (try (cases h; done))
    rw [evE]
    exact cj_not k (sndE a _ k tk tt h)
  | .ix a b, X, W, c, ex, k, tk, tt, h => by
    simp only [mtE] at h
    split at h <;> (try (cases h; done))
    simp only [Bool.and_eq_true, Bool.not_eq_true'] at h
    rw [evE]
    exact cj_ix k h.1.1 (sndE a _ k tk tt h.1.2) (sndE b _ k tk tt h.2)
  | .tup es, X, W, c, ex, k, tk, tt, h => by
    simp only [mtE] at h
    split at h <;> (try (cases h; done))
    rw [evE]
    exact cj_tup (sndEs es _ k tk tt h).1
  | .lst es, X, W, c, ex, k, tk, tt, h => by
    simp only [mtE] at h
    split at h <;> (try (cases h; done))
    rw [evE]
    exact cj_lst (sndEs es _ k tk tt h).1
  | .ife t a b, X, W, c, ex, k, tk, tt, h => by
    simp only [mtE] at h
    split at h <;> (try (cases h; done))
    simp only [Bool.and_eq_true] at h
    rw [evE]
    exact cj_ife (sndB t _ k tk tt h.1.1).1 (sndE a _ k tk tt h.1.2) (sndE b _ k tk tt h.2)
  | .add a b, X, W, c, ex, k, tk, tt, h => by
    simp only [mtE] at h
    split at h <;> (try (cases h; done))
    simp only [Bool.and_eq_true] at h
    rw [evE]
    exact cj_add k (sndE a _ k tk tt h.1) (sndE b _ k tk tt h.2)
  | .slice a lo hi, X, W, c, ex, k, tk, tt, h => by
    simp only [mtE] at h
    split at h <;> (try (cases h; done))
    simp only [Bool.and_eq_true] at h
    rw [evE]
    exact cj_slice k (sndE a _ k tk tt h.1.1) (sndOe lo _ k tk tt h.1.2) (sndOe hi _ k tk tt h.2)
  | .bf b es, X, W, c, ex, k, tk, tt, h => by
    simp only [mtE] at h
    split at h <;> (try (cases h; done))
    simp only [Bool.and_eq_true, beq_iff_eq] at h
    rw [evE]
    have z := sndEs es _ k tk tt h.2
    exact cj_bf k h.1.1 h.1.2 z.2 z.1
  | .sset a, X, W, c, ex, k, tk, tt, h => by
    simp only [mtE] at h
    split at h <;> (try (cases h; done))
    simp only [Bool.and_eq_true, beq_iff_eq, Bool.not_eq_true'] at h
    obtain ⟨⟨⟨⟨⟨h1, h2⟩, h3⟩, h4⟩, h5⟩, h6⟩ := h
    subst h1
    subst h2
    rw [evE]
    exact cj_sset k h3 h4 h5 (sndE a _ k tk tt h6)
  | .lrng1 a, X, W, c, ex, k, tk, tt, h => by
    simp only [mtE] at h
    split at h <;> (try (cases h; done))
    simp only [Bool.and_eq_true, beq_iff_eq, Bool.not_eq_true'] at h
    obtain ⟨⟨⟨⟨⟨h1, h2⟩, h3⟩, h4⟩, h5⟩, h6⟩ := h
    subst h1
    subst h2
    rw [evE]
    exact cj_lrng1 k h3 h4 h5 (sndE a _ k tk tt h6)
  | .lrng2 a b, X, W, c, ex, k, tk, tt, h => by
    simp only [mtE] at h
    split at h <;> (try (cases h; done))
    simp only [Bool.and_eq_true, beq_iff_eq, Bool.not_eq_true'] at h
    obtain ⟨⟨⟨⟨⟨⟨⟨h1, h2⟩, h3⟩, h4⟩, h5⟩, h6⟩, h7⟩, h8⟩ := h
    subst h1
    subst h2
    rw [evE]
    exact cj_lrng2 k h3 h4 h5 h6 (sndE a _ k tk tt h7) (sndE b _ k tk tt h8)
  | .call0 j, X, W, c, ex, k, tk, tt, h => by
    simp only [mtE] at h
    split at h <;> (try (cases h; done))
    split at h <;> (try (cases h; done))
    rename_i a ha
    simp only [Bool.and_eq_true, beq_iff_eq] at h
    obtain ⟨⟨⟨⟨⟨h1, h2⟩, h3⟩, h4⟩, h5⟩, h6⟩ := h
    subst h1
    have z := tt.plain ha h3 h4
    rw [h2] at z
    rw [evE, ha]
    exact cj_callF0 k tk h5 (nbug h6) z
  | .call j vs, X, W, c, ex, k, tk, tt, h => by
    simp only [mtE] at h
    split at h <;> (try (cases h; done))
    split at h <;> (try (cases h; done))
    rename_i a ha
    simp only [Bool.and_eq_true, beq_iff_eq] at h
    obtain ⟨⟨⟨⟨⟨⟨h1, h2⟩, h3⟩, h4⟩, h5⟩, h6⟩, h7⟩ := h
    subst h1
    rw [evE, ha]
    exact cj_callF k tk h4 (nbug h5) (tt.plain ha h2 h3) (noStar_ok h6) (sndVs vs _ k tk tt h7)
  | .callS j vs, X, W, c, ex, k, tk, tt, h => by
    simp only [mtE] at h
    split at h <;> (try (cases h; done))
    split at h <;> (try (cases h; done))
    rename_i a ha
    simp only [Bool.and_eq_true, beq_iff_eq] at h
    obtain ⟨⟨⟨⟨⟨⟨h1, h2⟩, h3⟩, h4⟩, h5⟩, h6⟩, h7⟩ := h
    subst h1
    rw [evE, ha]
    exact cj_callS k tk h4 (nbug h5) (tt.star ha h2 h3) (noStar_ok h6) (sndVs vs _ k tk tt h7)
  | .callK0 j ks, X, W, c, ex, k, tk, tt, h => by
    simp only [mtE] at h
    split at h <;> (try (cases h; done))
    split at h <;> (try (cases h; done))
    rename_i a ha
    simp only [Bool.and_eq_true, beq_iff_eq, decide_eq_true_eq] at h
    obtain ⟨⟨⟨⟨⟨⟨h1, h2⟩, h3⟩, h4⟩, h5⟩, h6⟩, h7⟩ := h
    subst h1
    have z := tt.kw ha h3 h6
    rw [h2] at z
    rw [evE, ha]
    exact cj_callK0 k tk h4 (nbug h5) z h6 (sndKs k ks _ h7)
  | .callK j vs ks, X, W, c, ex, k, tk, tt, h => by
    simp only [mtE] at h
    split at h <;> (try (cases h; done))
    split at h <;> (try (cases h; done))
    rename_i a ha
    simp only [Bool.and_eq_true, beq_iff_eq, decide_eq_true_eq] at h
    obtain ⟨⟨⟨⟨⟨⟨⟨h1, h2⟩, h3⟩, h4⟩, h5⟩, h6⟩, h7⟩, h8⟩ := h
    subst h1
    rw [evE, ha]
    exact cj_callK k tk h3 (nbug h4) (tt.kw ha h2 h6) (noStar_ok h5) h6 (sndV1 k vs _ h7) (sndKs k ks _ h8)
  | .mm0 m a, X, W, c, ex, k, tk, tt, h => by
    simp only [mtE] at h
    split at h <;> (try (cases h; done))
    simp only [Bool.and_eq_true] at h
    rw [evE]
    exact cj_mmP0 k (beq_iff_eq.mp h.1.1) h.1.2 h.2
  | .mm1 m a q, X, W, c, ex, k, tk, tt, h => by
    simp only [mtE] at h
    split at h <;> (try (cases h; done))
    simp only [Bool.and_eq_true, Bool.not_eq_true'] at h
    rw [evE]
    exact cj_mmP1 k (beq_iff_eq.mp h.1.1.1.1) h.1.1.1.2 (soundP k q _ h.1.1.2).1 h.1.2 h.2
  | .mm m i es, X, W, c, ex, k, tk, tt, h => by
    simp only [mtE] at h
    split at h <;> (try (cases h; done))
    simp only [Bool.and_eq_true, decide_eq_true_eq] at h
    obtain ⟨⟨⟨⟨⟨h1, h2⟩, h3⟩, h4⟩, h5⟩, h6⟩ := h
    have z := sndEs es _ k tk tt h5
    rw [evE]
    exact cj_mm k (beq_iff_eq.mp h1) (beq_iff_eq.mp h2) h3 z.2 h4 z.1 h6
  | .lc own G it t el, X, W, c, ex, k, tk, tt, h => by
    simp only [mtE] at h
    split at h <;> (try (cases h; done))
    simp only [Bool.and_eq_true, Bool.not_eq_true'] at h
    obtain ⟨⟨⟨⟨⟨⟨h1, h2⟩, h3⟩, h4⟩, h5⟩, h6⟩, h7⟩ := h
    have ok := blkD_ok k h1
    have bo := blkOk_by ok
    rw [evE]
    exact cj_lc k ok h2 (noSet h3) (sndI it _ _ k tk tt h4) (fun s H C cl fp => sndG (k.blk bo s H C cl fp) G _ h5) (fun s H C cl fp => sndBs t _ (k.blk bo s H C cl fp) takes0 (tt.blk _ _ _ _ _) h6) (fun s H C cl fp => sndE el _ (k.blk bo s H C cl fp) takes0 (tt.blk _ _ _ _ _) h7)
  | .lc2 own vs1 G it t G1 it1 t1 el, X, W, c, ex, k, tk, tt, h => by
    simp only [mtE] at h
    split at h <;> (try (cases h; done))
    simp only [Bool.and_eq_true, Bool.not_eq_true'] at h
    obtain ⟨⟨⟨⟨⟨⟨⟨⟨⟨⟨⟨⟨h1, h2⟩, h3⟩, h4⟩, h5⟩, h6⟩, h7⟩, h8⟩, h9⟩, h10⟩, h11⟩, h12⟩, h13⟩ := h
    have ok := blkD_ok k h1
    have bo := blkOk_by ok
    rw [evE]
    exact cj_lc2 k ok h2 h3 h4 (noSet h5) (fun env => noSet h6) (sndI it _ _ k tk tt h7) (fun s H C cl fp => sndG (k.blk bo s H C cl fp) G _ h8) (fun s H C cl fp => sndBs t _ (k.blk bo s H C cl fp) takes0 (tt.blk _ _ _ _ _) h9) (fun s H C cl fp => sndI it1 _ _ (k.blk bo s H C cl fp) takes0 (tt.blk _ _ _ _ _) h10) (fun s H C cl fp => sndG (k.blk bo s H C cl fp) G1 _ h11) (fun s H C cl fp => sndBs t1 _ (k.blk bo s H C cl fp) takes0 (tt.blk _ _ _ _ _) h12) (fun s H C cl fp => sndE el _ (k.blk bo s H C cl fp) takes0 (tt.blk _ _ _ _ _) h13)
  | .lstS ds, X, W, c, ex, k, tk, tt, h => by
    simp only [mtE] at h
    split at h <;> (try (cases h; done))
    rw [evE]
    exact cj_lst (sndDs ds _ k tk tt h)
  | .tupS ds, X, W, c, ex, k, tk, tt, h => by
    simp only [mtE] at h
    split at h <;> (try (cases h; done))
    rw [evE]
    exact cj_tup (sndDs ds _ k tk tt h)
  | .and a b, X, W, c, ex, k, tk, tt, h => by
    simp only [mtE] at h
    split at h <;> (try (cases h; done))
    · simp only [Bool.and_eq_true] at h
      rw [evE]
      exact cj_and k (sndE a _ k tk tt h.1) (cj_bop1 (sndE b _ k tk tt h.2))
    · simp only [Bool.and_eq_true] at h
      rw [evE]
      exact cj_and k (sndE a _ k tk tt h.1) (sndE b _ k tk tt h.2)
  | .or a b, X, W, c, ex, k, tk, tt, h => by
    simp only [mtE] at h
    split at h <;> (try (cases h; done))
    · simp only [Bool.and_eq_true] at h
      rw [evE]
      exact cj_or k (sndE a _ k tk tt h.1) (cj_bop1 (sndE b _ k tk tt h.2))
    · simp only [Bool.and_eq_true] at h
      rw [evE]
      exact cj_or k (sndE a _ k tk tt h.1) (sndE b _ k tk tt h.2)
theorem sndOe : ∀ (a : Oe) {X : Cx} {W : WX} {c : Cxt} (ex : Option Expr), Cp X g c → Takes X W → Tab X g tb → mtOe tb a c ex = true → POJ X g W (evOe tb a) ex
  | .none, X, W, c, ex, k, tk, tt, h => by
    simp only [mtOe] at h
    split at h <;> (try (cases h; done))
    rw [evOe]
    exact poj_none
  | .some a, X, W, c, ex, k, tk, tt, h => by
    simp only [mtOe] at h
    split at h <;> (try (cases h; done))
    rw [evOe]
    exact poj_some (sndE a _ k tk tt h)
theorem sndEs : ∀ (a : Es) {X : Cx} {W : WX} {c : Cxt} (es : List Expr), Cp X g c → Takes X W → Tab X g tb → mtEs tb a c es = true → AJ X g W (evEs tb a) es ∧ ∀ e ∈ es, starB e = false
  | .nil, X, W, c, es, k, tk, tt, h => by
    simp only [mtEs] at h
    split at h <;> (try (cases h; done))
    rw [evEs]
    exact ⟨aj_nil, fun e he => nomatch he⟩
  | .cons a r, X, W, c, es, k, tk, tt, h => by
    simp only [mtEs] at h
    split at h <;> (try (cases h; done))
    simp only [Bool.and_eq_true, Bool.not_eq_true'] at h
    rw [evEs]
    have z := sndEs r _ k tk tt h.2
    exact ⟨aj_cons h.1.1 (sndE a _ k tk tt h.1.2) z.1, fun e he => by
      rcases List.mem_cons.mp he with rfl | he
      · exact h.1.1
      · exact z.2 e he⟩
theorem sndDs : ∀ (a : Ds) {X : Cx} {W : WX} {c : Cxt} (es : List Expr), Cp X g c → Takes X W → Tab X g tb → mtDs tb a c es = true → AJ X g W (evDs tb a) es
  | .nil, X, W, c, es, k, tk, tt, h => by
    simp only [mtDs] at h
    split at h <;> (try (cases h; done))
    rw [evDs]
    exact aj_nil
  | .cons a r, X, W, c, es, k, tk, tt, h => by
    simp only [mtDs] at h
    split at h <;> (try (cases h; done))
    simp only [Bool.and_eq_true, Bool.not_eq_true'] at h
    rw [evDs]
    exact aj_cons h.1.1 (sndE a _ k tk tt h.1.2) (sndDs r _ k tk tt h.2)
  | .star a r, X, W, c, es, k, tk, tt, h => by
    simp only [mtDs] at h
    split at h <;> (try (cases h; done))
    simp only [Bool.and_eq_true] at h
    rw [evDs]
    exact aj_star k (sndE a _ k tk tt h.1) (sndDs r _ k tk tt h.2)
theorem sndVs : ∀ (a : Vs) {X : Cx} {W : WX} {c : Cxt} (es : List Expr), Cp X g c → Takes X W → Tab X g tb → mtVs tb a c es = true → VJ X g W (evVs tb a) es
  | .q l, X, W, c, es, k, tk, tt, h => by
    simp only [mtVs] at h
    rw [evVs]
    exact vj_q (sndV1 k l _ h)
  | .c a r, X, W, c, es, k, tk, tt, h => by
    simp only [mtVs] at h
    split at h <;> (try (cases h; done))
    simp only [Bool.and_eq_true, Bool.not_eq_true'] at h
    rw [evVs]
    exact vj_c h.1.1 (sndE a _ k tk tt h.1.2) (sndVs r _ k tk tt h.2)
  | .bf p r, X, W, c, es, k, tk, tt, h => by
    simp only [mtVs] at h
    split at h <;> (try (cases h; done))
    simp only [Bool.and_eq_true, Bool.not_eq_true'] at h
    rw [evVs]
    exact vj_bf h.1.1 (soundP k p _ h.1.2).1 (sndVs r _ k tk tt h.2)
  | .io i r, X, W, c, es, k, tk, tt, h => by
    simp only [mtVs] at h
    split at h <;> (try (cases h; done))
    simp only [Bool.and_eq_true, beq_iff_eq] at h
    rw [evVs]
    exact vj_io k h.1.1 h.1.2 (sndVs r _ k tk tt h.2)
theorem sndB : ∀ (a : B) {X : Cx} {W : WX} {c : Cxt} (ex : Expr), Cp X g c → Takes X W → Tab X g tb → mtB tb a c ex = true → BJ X g W (evB tb a) ex ∧ ∀ op es pos, ex = .BoolOp op es pos → WBJ X g W (evB tb a) ex
  | .p a, X, W, c, ex, k, tk, tt, h => by
    simp only [mtB] at h
    rw [evB]
    have z := soundP k a _ h
    exact ⟨bj_p z.2.1, fun op es pos e => wbj_p (z.2.2 op es pos e)⟩
  | .val a, X, W, c, ex, k, tk, tt, h => by
    simp only [mtB, Bool.and_eq_true, Bool.not_eq_true'] at h
    rw [evB]
    exact ⟨bj_val k (sndE a _ k tk tt h.2) (noBop h.1), fun op es pos e => by subst e; cases h.1⟩
  | .not a, X, W, c, ex, k, tk, tt, h => by
    simp only [mtB] at h
    split at h <;> (try (cases h; done))
    rw [evB]
    exact ⟨bj_not (sndB a _ k tk tt h).1, fun op es pos e => by cases e⟩
  | .and a b, X, W, c, ex, k, tk, tt, h => by
    simp only [mtB] at h
    split at h <;> (try (cases h; done))
    · simp only [Bool.and_eq_true] at h
      rw [evB]
      have w := wbj_and (pos := by assumption) (sndB a _ k tk tt h.1).1 (wbj_and1 (sndB b _ k tk tt h.2).1)
      exact ⟨w.t, fun _ _ _ _ => w⟩
    · simp only [Bool.and_eq_true] at h
      rw [evB]
      have w := wbj_and (sndB a _ k tk tt h.1).1 ((sndB b _ k tk tt h.2).2 _ _ _ rfl)
      exact ⟨w.t, fun _ _ _ _ => w⟩
  | .or a b, X, W, c, ex, k, tk, tt, h => by
    simp only [mtB] at h
    split at h <;> (try (cases h; done))
    · simp only [Bool.and_eq_true] at h
      rw [evB]
      have w := wbj_or (pos := by assumption) (sndB a _ k tk tt h.1).1 (wbj_or1 (sndB b _ k tk tt h.2).1)
      exact ⟨w.t, fun _ _ _ _ => w⟩
    · simp only [Bool.and_eq_true] at h
      rw [evB]
      have w := wbj_or (sndB a _ k tk tt h.1).1 ((sndB b _ k tk tt h.2).2 _ _ _ rfl)
      exact ⟨w.t, fun _ _ _ _ => w⟩
  | .cmp o a b, X, W, c, ex, k, tk, tt, h => by
    simp only [mtB] at h
    split at h <;> (try (cases h; done))
    simp only [Bool.and_eq_true, beq_iff_eq, Bool.not_eq_true'] at h
    rw [evB]
    exact ⟨bj_cmp k h.1.1.1.1 h.1.1.1.2 h.1.1.2 (sndE a _ k tk tt h.1.2) (sndE b _ k tk tt h.2), fun op es pos e => by cases e⟩
  | .ife t a b, X, W, c, ex, k, tk, tt, h => by
    simp only [mtB] at h
    split at h <;> (try (cases h; done))
    simp only [Bool.and_eq_true] at h
    rw [evB]
    exact ⟨bj_ife (sndB t _ k tk tt h.1.1).1 (sndB a _ k tk tt h.1.2).1 (sndB b _ k tk tt h.2).1, fun op es pos e => by cases e⟩
theorem sndBs : ∀ (a : Bs) {X : Cx} {W : WX} {c : Cxt} (es : List Expr), Cp X g c → Takes X W → Tab X g tb → mtBs tb a c es = true → TsJ X g W (evBs tb a) es
  | .nil, X, W, c, es, k, tk, tt, h => by
    simp only [mtBs] at h
    split at h <;> (try (cases h; done))
    rw [evBs]
    exact tsj_nil
  | .one a, X, W, c, es, k, tk, tt, h => by
    simp only [mtBs] at h
    split at h <;> (try (cases h; done))
    rw [evBs]
    exact tsj_one (sndB a _ k tk tt h).1
theorem sndI : ∀ (a : I) {X : Cx} {W : WX} {c : Cxt} (tg ex : Expr), Cp X g c → Takes X W → Tab X g tb → mtI tb a c tg ex = true → IJ X g W tg (evI tb a) ex
  | .lst a, X, W, c, tg, ex, k, tk, tt, h => by
    simp only [mtI] at h
    rw [evI]
    exact ij_lst k (sndE a _ k tk tt h)
  | .tup a, X, W, c, tg, ex, k, tk, tt, h => by
    simp only [mtI] at h
    rw [evI]
    exact ij_tup k (sndE a _ k tk tt h)
  | .str a, X, W, c, tg, ex, k, tk, tt, h => by
    simp only [mtI] at h
    rw [evI]
    exact ij_str (sndE a _ k tk tt h)
  | .rng1 a, X, W, c, tg, ex, k, tk, tt, h => by
    simp only [mtI] at h
    split at h <;> (try (cases h; done))
    simp only [Bool.and_eq_true, beq_iff_eq, Bool.not_eq_true'] at h
    obtain ⟨⟨⟨h1, h2⟩, h3⟩, h4⟩ := h
    subst h1
    rw [evI]
    exact ij_rng1 k h2 h3 (sndE a _ k tk tt h4)
  | .rng2 a b, X, W, c, tg, ex, k, tk, tt, h => by
    simp only [mtI] at h
    split at h <;> (try (cases h; done))
    simp only [Bool.and_eq_true, beq_iff_eq, Bool.not_eq_true'] at h
    obtain ⟨⟨⟨⟨⟨h1, h2⟩, h3⟩, h4⟩, h5⟩, h6⟩ := h
    subst h1
    rw [evI]
    exact ij_rng2 k h2 h3 h4 (sndE a _ k tk tt h5) (sndE b _ k tk tt h6)
  | .rng3 a b d, X, W, c, tg, ex, k, tk, tt, h => by
    simp only [mtI] at h
    split at h <;> (try (cases h; done))
    simp only [Bool.and_eq_true, beq_iff_eq, Bool.not_eq_true'] at h
    obtain ⟨⟨⟨⟨⟨⟨⟨h1, h2⟩, h3⟩, h4⟩, h5⟩, h6⟩, h7⟩, h8⟩ := h
    subst h1
    rw [evI]
    exact ij_rng3 k h2 h3 h4 h5 (sndE a _ k tk tt h6) (sndE b _ k tk tt h7) (sndE d _ k tk tt h8)
  | .rev a, X, W, c, tg, ex, k, tk, tt, h => by
    simp only [mtI] at h
    split at h <;> (try (cases h; done))
    simp only [Bool.and_eq_true, beq_iff_eq, Bool.not_eq_true'] at h
    obtain ⟨⟨⟨h1, h2⟩, h3⟩, h4⟩ := h
    subst h1
    rw [evI]
    exact ij_rev k h2 (k.bn _ (by decide)) h3 (sndE a _ k tk tt h4)
  | .enum a, X, W, c, tg, ex, k, tk, tt, h => by
    simp only [mtI] at h
    split at h <;> (try (cases h; done))
    simp only [Bool.and_eq_true, beq_iff_eq, Bool.not_eq_true'] at h
    obtain ⟨⟨⟨h1, h2⟩, h3⟩, h4⟩ := h
    subst h1
    rw [evI]
    exact ij_enum k h2 h3 (sndE a _ k tk tt h4)
  | .zip a b, X, W, c, tg, ex, k, tk, tt, h => by
    simp only [mtI] at h
    split at h <;> (try (cases h; done))
    simp only [Bool.and_eq_true, beq_iff_eq, Bool.not_eq_true'] at h
    obtain ⟨⟨⟨⟨⟨h1, h2⟩, h3⟩, h4⟩, h5⟩, h6⟩ := h
    subst h1
    rw [evI]
    exact ij_zip k h2 h3 h4 (sndE a _ k tk tt h5) (sndE b _ k tk tt h6)
end
structure Run (X : Cx) (g : Gx) (W : WX) (c : Cxt) (tb : List Cal) : Prop where
  k : Cp X g c
  fn : X.fn = fun _ => true
  po : PassesOwn (model X.prog X.w) X.A X.env X.xe
  tk : Takes X W
  tt : Tab X g tb
mutual
theorem sndS {X : Cx} {W : WX} {c : Cxt} (r : Run X g W c tb) : ∀ (a : S) (st : Stmt), mtS tb a c st = true → SJ X g c W (evS tb a) st
  | .pass, st, h => by
    simp only [mtS] at h
    split at h <;> (try (cases h; done))
    rw [evS]
    exact sj_pass
  | .brk, st, h => by
    simp only [mtS] at h
    split at h <;> (try (cases h; done))
    rw [evS]
    exact sj_break
  | .cont, st, h => by
    simp only [mtS] at h
    split at h <;> (try (cases h; done))
    rw [evS]
    exact sj_continue
  | .ex a, st, h => by
    simp only [mtS] at h
    split at h <;> (try (cases h; done))
    simp only [Bool.and_eq_true, Bool.not_eq_true'] at h
    rw [evS]
    exact sj_expr h.1 (sndE a _ r.k r.tk r.tt h.2)
  | .ret a, st, h => by
    simp only [mtS] at h
    split at h <;> (try (cases h; done))
    rw [evS]
    exact sj_ret (sndE a _ r.k r.tk r.tt h)
  | .retN, st, h => by
    simp only [mtS] at h
    split at h <;> (try (cases h; done))
    rw [evS]
    exact sj_retN
  | .ife t a b, st, h => by
    simp only [mtS] at h
    split at h <;> (try (cases h; done))
    simp only [Bool.and_eq_true] at h
    rw [evS]
    exact sj_if (sndB t _ r.k r.tk r.tt h.1.1).1 (sndSs r a _ h.1.2) (sndSs r b _ h.2)
  | .asg i a, st, h => by
    simp only [mtS] at h
    split at h <;> (try (cases h; done))
    simp only [Bool.and_eq_true, Bool.not_eq_true', beq_iff_eq] at h
    obtain ⟨⟨⟨⟨h1, h2⟩, h3⟩, h4⟩, h5⟩ := h
    rw [evS]
    exact sj_asg r.k r.fn h1 h2 h3 h4 (sndE a _ r.k r.tk r.tt h5)
  | .asgC i a, st, h => by
    simp only [mtS] at h
    split at h <;> (try (cases h; done))
    simp only [Bool.and_eq_true, Bool.not_eq_true', beq_iff_eq] at h
    obtain ⟨⟨⟨⟨h1, h2⟩, h3⟩, h4⟩, h5⟩ := h
    rw [evS]
    exact sj_asgC r.k r.fn h1 h2 h3 h4 (sndE a _ r.k r.tk r.tt h5)
  | .aug o i a, st, h => by
    simp only [mtS] at h
    split at h <;> (try (cases h; done))
    simp only [Bool.and_eq_true, Bool.not_eq_true', beq_iff_eq] at h
    obtain ⟨⟨⟨⟨⟨h1, h2⟩, h3⟩, h4⟩, h5⟩, h6⟩ := h
    rw [evS]
    exact sj_aug r.k r.fn h1 h2 h3 h4 h5 (sndE a _ r.k r.tk r.tt h6)
  | .par2 i j es, st, h => by
    simp only [mtS] at h
    split at h <;> (try (cases h; done))
    simp only [Bool.and_eq_true, Bool.not_eq_true', beq_iff_eq, bne_iff_ne] at h
    obtain ⟨⟨⟨⟨⟨⟨⟨⟨⟨⟨h1, h2⟩, h3⟩, h4⟩, h5⟩, h6⟩, h7⟩, h8⟩, h9⟩, h10⟩, h11⟩ := h
    rw [evS]
    exact sj_par2 r.k r.k.kind h1 h2 h3 h4 h5 h6 h7 (beq_iff_eq.mpr h8) h9 h10 (sndEs es _ r.k r.tk r.tt h11).1
  | .par3 i j l es, st, h => by
    simp only [mtS] at h
    split at h <;> (try (cases h; done))
    simp only [Bool.and_eq_true, Bool.not_eq_true', beq_iff_eq, bne_iff_ne] at h
    obtain ⟨⟨⟨⟨⟨⟨⟨⟨⟨⟨⟨⟨⟨⟨⟨⟨⟨⟨h1, h2⟩, h3⟩, h4⟩, h5⟩, h6⟩, h7⟩, h8⟩, h9⟩, h10⟩, h11⟩, h12⟩, h13⟩, h14⟩, h15⟩, h16⟩, h17⟩, h18⟩, h19⟩ := h
    rw [evS]
    exact sj_par3 r.k r.k.kind h1 h2 h3 h4 h5 h6 h7 h8 h9 h10 h11 h12 (beq_iff_eq.mpr h13) (beq_iff_eq.mpr h14) h15 h16 h17 h18 (sndEs es _ r.k r.tk r.tt h19).1
  | .tgt G a, st, h => by
    simp only [mtS] at h
    split at h <;> (try (cases h; done))
    simp only [Bool.and_eq_true, Bool.or_eq_true, Bool.not_eq_true'] at h
    obtain ⟨⟨⟨⟨h1, h2⟩, h3⟩, h4⟩, h5⟩ := h
    rw [evS]
    exact sj_tgt r.k h1 h2 h3 (h4.elim no_par (swB_ok r.k)) (sndE a _ r.k r.tk r.tt h5)
  | .whl t b, st, h => by
    simp only [mtS] at h
    split at h <;> (try (cases h; done))
    simp only [Bool.and_eq_true] at h
    rw [evS]
    exact sj_while r.po (sndB t _ r.k r.tk r.tt h.1).1 (sndSs r b _ h.2)
  | .for_ G it b, st, h => by
    simp only [mtS] at h
    split at h <;> (try (cases h; done))
    simp only [Bool.and_eq_true, Bool.not_eq_true'] at h
    rw [evS]
    exact sj_for r.k r.po (noSet h.1.1.1) (sndI it _ _ r.k r.tk r.tt h.1.1.2) (sndG r.k G _ h.1.2) (sndSs r b _ h.2)
  | .set a q v, st, h => by
    simp only [mtS] at h
    split at h <;> (try (cases h; done))
    simp only [Bool.and_eq_true, Bool.not_eq_true'] at h
    rw [evS]
    exact sj_set r.k h.1.1.1 h.1.1.2 (soundP r.k q _ h.1.2).1 (sndE v _ r.k r.tk r.tt h.2)
  | .asgLc i own G it t el, st, h => by
    simp only [mtS] at h
    split at h <;> (try (cases h; done))
    simp only [Bool.and_eq_true, Bool.not_eq_true'] at h
    obtain ⟨⟨⟨⟨⟨⟨⟨⟨⟨⟨⟨h1, h2⟩, h3⟩, h4⟩, h5⟩, h6⟩, h7⟩, h8⟩, h9⟩, h10⟩, h11⟩, h12⟩ := h
    have ok := blkD_ok r.k h1
    have bo := blkOk_by ok
    rw [evS]
    exact sj_asgLc r.k ok h2 (noSet h3) (beq_iff_eq.mp h4) (beq_iff_eq.mp h5) h6 h7 h8 (sndI it _ _ r.k r.tk r.tt h9) (fun s H C cl fp => sndG (r.k.blk bo s H C cl fp) G _ h10) (fun s H C cl fp => sndBs t _ (r.k.blk bo s H C cl fp) takes0 (r.tt.blk _ _ _ _ _) h11) (fun s H C cl fp => sndE el _ (r.k.blk bo s H C cl fp) takes0 (r.tt.blk _ _ _ _ _) h12)
  | .asgLc2 i own vs1 G it t G1 it1 t1 el, st, h => by
    simp only [mtS] at h
    split at h <;> (try (cases h; done))
    simp only [Bool.and_eq_true, Bool.not_eq_true'] at h
    obtain ⟨⟨⟨⟨⟨⟨⟨⟨⟨⟨⟨⟨⟨⟨⟨⟨⟨h1, h2⟩, h3⟩, h4⟩, h5⟩, h6⟩, g1⟩, g2⟩, g3⟩, g4⟩, g5⟩, h7⟩, h8⟩, h9⟩, h10⟩, h11⟩, h12⟩, h13⟩ := h
    have ok := blkD_ok r.k h1
    have bo := blkOk_by ok
    rw [evS]
    exact sj_asgLc2 r.k ok h2 h3 h4 (noSet h5) (fun env => noSet h6) (beq_iff_eq.mp g1) (beq_iff_eq.mp g2) g3 g4 g5 (sndI it _ _ r.k r.tk r.tt h7) (fun s H C cl fp => sndG (r.k.blk bo s H C cl fp) G _ h8) (fun s H C cl fp => sndBs t _ (r.k.blk bo s H C cl fp) takes0 (r.tt.blk _ _ _ _ _) h9) (fun s H C cl fp => sndI it1 _ _ (r.k.blk bo s H C cl fp) takes0 (r.tt.blk _ _ _ _ _) h10) (fun s H C cl fp => sndG (r.k.blk bo s H C cl fp) G1 _ h11) (fun s H C cl fp => sndBs t1 _ (r.k.blk bo s H C cl fp) takes0 (r.tt.blk _ _ _ _ _) h12) (fun s H C cl fp => sndE el _ (r.k.blk bo s H C cl fp) takes0 (r.tt.blk _ _ _ _ _) h13)
  | .nev, st, h => by
    rw [evS]
    exact sj_nev
  | .kill is s, st, h => by
    simp only [mtS] at h
    rw [evS]
    exact sj_kill is (sndS r s _ h)
  | .forB i G b, st, h => by
    simp only [mtS] at h
    split at h <;> (try (cases h; done))
    simp only [Bool.and_eq_true, beq_iff_eq] at h
    obtain ⟨⟨⟨h1, h2⟩, h3⟩, h4⟩ := h
    rw [evS]
    exact sj_forB r.k r.po h1 h2 (sndG (r.k.pin i) G _ h3) (sndSs ⟨r.k.pin i, r.fn, r.po, r.tk, r.tt⟩ b _ h4)
theorem sndSs {X : Cx} {W : WX} {c : Cxt} (r : Run X g W c tb) : ∀ (a : Ss) (st : List Stmt), mtSs tb a c st = true → SsJ X g c W (evSs tb a) st
  | .nil, st, h => by
    simp only [mtSs] at h
    split at h <;> (try (cases h; done))
    rw [evSs]
    exact ssj_nil
  | .cons a b, st, h => by
    simp only [mtSs] at h
    split at h <;> (try (cases h; done))
    simp only [Bool.and_eq_true] at h
    rw [evSs]
    exact ssj_cons (sndS r a _ h.1) (sndSs r b _ h.2)
  | .nev, st, h => by
    rw [evSs]
    exact ssj_nev
end
end
end DL
namespace DL
open PySem PySem.Spec PyProof.Rows L2

/-! ### the end: the law's own def, called with the script -/
section
variable {P : Program} {w : World} {K : PySem.W.Frag} {mg mb : Str → Option Value} {k : Nat} {fa a : Addr} {sp : Sp} {z : Shared} {vs : List Value} {ns : List Int} {H : Hp}
/-- the heap without what is tracked is a base -/
theorem base_env (kin : K.In z.heap) (gl : z.heap.Ns mainGlobals mg) (bl : z.heap.Ns builtinsNs mb) (bb : ∀ y : Str, y ≠ "__name__" → mb y = bootBuiltins y) (nl : z.heap.NoLimit) (gz : z.gens = #[])
    (at_ : z.heap.get? a = some { cls := .type "list", data := .seq vs.toArray }) (hok : HOk P w H z.heap) (one : ∀ b, H b ≠ none → b = a) (out : H a ≠ none → K.lookup a = none) :
    K.In (hidT z.heap H) ∧ (hidT z.heap H).Ns mainGlobals mg ∧ Env0 P w K mg (hidT z.heap H) callerA [] z H := by
  have dicts : ∀ {b : Addr} {f : Str → Option Value}, z.heap.Ns b f → (hidT z.heap H).Ns b f := by
    rintro b f ⟨o, es, ep, e, d, r⟩
    refine ⟨o, es, ep, hidT_get e ?_, d, r⟩
    apply Classical.byContradiction
    intro nn
    obtain rfl := one b nn
    rw [at_] at e
    cases e
    cases d
  have kin' : K.In (hidT z.heap H) := by
    intro b o e
    refine hidT_get (kin b o e) (Classical.byContradiction fun nn => ?_)
    obtain rfl := one b nn
    rw [out nn] at e
    cases e
  obtain ⟨mc, n1, n2⟩ := nl
  exact ⟨kin', dicts gl, rfl, ⟨kin', dicts gl, ⟨mb, dicts bl, bb⟩, ⟨mc, dicts n1, n2⟩⟩, fun b o e => of_hidT e, Nat.le_of_eq (hidT_size z.heap H), trivial, (fun b hb => absurd (show b ∈ ([] : List Addr) from hb) List.not_mem_nil), hok, AllBare.of_eq gz⟩
/-- what such a call leaves: True, and the script as it was -/
abbrev LawEnd (z : Shared) : Result → Shared → Prop := fun r z' => r = .ok (.ret (.bool true)) ∧ OldK z.heap z'.heap ∧ z'.os = z.os ∧ AllBare z'.gens
theorem law_from (e0 : ∃ base, K.In base ∧ base.Ns mainGlobals mg ∧ Env0 P w K mg base callerA [] z H) (on : Only H) (rm : Room k callerA)
    (F : ∀ base : Heap, K.In base → base.Ns mainGlobals mg → FnF P w K mg base k fa 1 [] sp) (q : sp [.ref a] H (fun v _ => v = .bl true) fun _ _ _ => False) :
    codeAny (model P w) callerA (.call (.ref fa) ⟨[.ref a], []⟩) (LawEnd z) z := by
  obtain ⟨base, b1, b2, env⟩ := e0
  have run := F base b1 b2 callerA [] z H [.ref a] [] [.ref a] [] (fun v _ => v = .bl true) (fun _ _ _ => False) rm rfl env (.cons rfl .nil) .nil rfl rfl (by rw [List.append_nil]; exact q)
  refine codeAny_mono run fun r z' end_ => ?_
  match r, end_ with
  | .error _, ⟨_, _, _, _, _, _, _, _, _, _, _, _, no⟩ => exact no.elim
  | .ok (.ret u), ⟨v, H', os, bare, un, hk', rv, ev⟩ =>
    have ev : v = .bl true := ev
    subst ev
    have eu : u = Value.bool true := rv
    refine ⟨by rw [eu], OldK.of_keep fun b o e => ?_, os, bare⟩
    rcases on b with nb | ⟨ob, xs, fb⟩
    · exact un.keep b o e nb (fun m => absurd (show b ∈ ([] : List Addr) from m) List.not_mem_nil) List.not_mem_nil
    · have o1 := (env.hok b _ fb).1
      rw [e] at o1
      rw [(hk' b _ (un.frzs b ob _ fb)).1, Option.some.inj o1]
theorem law_callF (kin : K.In z.heap) (gl : z.heap.Ns mainGlobals mg) (bl : z.heap.Ns builtinsNs mb) (bb : ∀ y : Str, y ≠ "__name__" → mb y = bootBuiltins y) (nl : z.heap.NoLimit) (gz : z.gens = #[])
    (at_ : z.heap.get? a = some { cls := .type "list", data := .seq vs.toArray }) (is : IntsAre vs ns) (sz : ns.length ≤ sizeLine) (rm : Room k callerA)
    (F : ∀ base : Heap, K.In base → base.Ns mainGlobals mg → FnF P w K mg base k fa 1 [] sp)
    (q : ∀ H : Hp, Only H → SqL K H a (ns.map V.int) → sp [.ref a] H (fun v _ => v = .bl true) fun _ _ _ => False) :
    codeAny (model P w) callerA (.call (.ref fa) ⟨[.ref a], []⟩) (LawEnd z) z := by
  have rv := vals_ints is
  by_cases kn : K.lookup a = none
  · let ob : Obj := { cls := .type "list", data := .seq vs.toArray }
    let H : Hp := fun b => if b = a then some (.frz ob (.lst (ns.map V.int))) else none
    have Hn : ∀ b, b ≠ a → H b = none := fun b nb => if_neg nb
    have Ha : H a = some (.frz ob (.lst (ns.map V.int))) := if_pos rfl
    have on : Only H := fun b => if e : b = a then .inr ⟨ob, ns.map V.int, by rw [e]; exact Ha⟩ else .inl (Hn b e)
    have ok : HOk P w H z.heap := by
      intro b u hu
      by_cases e : b = a
      · subst e
        rw [Ha] at hu
        cases hu
        exact ⟨at_, by rw [List.length_map]; exact sz, vs, _, rv, at_⟩
      · rw [Hn b e] at hu
        cases hu
    exact law_from ⟨_, base_env kin gl bl bb nl gz at_ ok (fun b nb => Classical.byContradiction fun e => nb (Hn b e)) fun _ => kn⟩ on rm F (q H on (.inl (.inr ⟨ob, Ha⟩)))
  · obtain ⟨o, ho⟩ := Option.ne_none_iff_exists'.mp kn
    have eo := kin a o ho
    rw [at_] at eo
    cases eo
    let H : Hp := fun _ => none
    have on : Only H := fun _ => .inl rfl
    exact law_from ⟨_, base_env kin gl bl bb nl gz at_ (fun b u hu => nomatch (show (none : Option HO) = some u from hu)) (fun b nb => absurd rfl nb) fun nn => absurd rfl nn⟩ on rm F
      (q H on (.inr ⟨_, vs.toArray, _, ho, rfl, rfl, rfl, by rw [List.size_toArray, is.length]; exact sz, by simpa using rv⟩))
end
/-- the goal that the head leaves of a law -/
theorem walkF {l : PySem.W.OpenLaw} {n k : Nat} {q : Program} {loose : List Str} {XP : (Str → Option Value) → Heap → Prop} {YP : World → Heap → Prop} {d : DefRec} {sp : Gx → Sp}
    (most : l.most = some n) (small : n ≤ sizeLine) (nod : d.params.defaults = []) (rm : Room k callerA)
    (F : ∀ (w : World) (mg : Str → Option Value) (fa : Addr) (h : Heap), YP w h → h.Ns mainGlobals mg → mg d.name = some (.ref fa) →
      ∃ (g : Gx), g.K.In h ∧ ∀ base : Heap, g.K.In base → base.Ns mainGlobals mg → FnF l.prog w g.K mg base k fa 1 [] (sp g))
    (law : ∀ (g : Gx) (H : Hp) (a : Addr) (ns : List Int), ns.length ≤ n → (∀ i ∈ ns, Builtin.Int.intBits i ≤ 1048576) → Only H → SqL g.K H a (ns.map V.int) → sp g [.ref a] H (fun v _ => v = .bl true) fun _ _ _ => False) :
    PySem.W.WalkO q loose XP YP l.row.toRowW d [] (fun f vs => PySem.call f vs) := by
  refine Att.attach_callB most nod fun w z0 z mg mb fa o pm cd doc a vs ns gr yp ho hd hcd hmg hobj is len bits gz => ?_
  obtain ⟨g, kin, hF⟩ := F w mg fa _ yp gr.T.g hmg
  exact law_callF kin gr.T.g gr.T.b gr.T.builtins gr.T.nolimit gz hobj is (Nat.le_trans len small) rm hF fun H on sq => law g H a ns len bits on sq
/-! ### from what a def makes to what a law wants -/
theorem spD_law {g : Gx} {F : List T → Option Out} {H : Hp} {a : Addr} {ns : List Int} {fin : List (Option T)} (on : Only H) (sq : SqL g.K H a (ns.map V.int)) (h : F [.fz (.scr ns)] = some (.ret (.fz (.bl true)) fin)) :
    SpD g F [.ref a] H (fun v _ => v = .bl true) fun _ _ _ => False := by
  refine ⟨[.fz (.scr ns)], H, [], _, Same.refl H, ?_, (fun b => Nat.zero_le _), (fun b m => nomatch m), h, fun v H' S' e => ?_⟩
  · simp only [RepTs, RepT, Rep]
    exact ⟨_, [], [], [], rfl, rfl, ⟨⟨a, rfl, sq⟩, rfl⟩, rfl, rfl⟩
  · obtain ⟨f, r⟩ := Ok.top e
    simp only [RepT, Rep] at r
    exact r.1
/-! ### a def's promise, by its terms -/
/-- how the table's defs stand in the module -/
def TabM (P : Program) (w : World) (K : PySem.W.Frag) (mg : Str → Option Value) (base : Heap) (k : Nat) (g : Gx) (tb : List Cal) : Prop :=
  ∀ a ∈ tb, ∃ (f : Addr) (j : Nat), j ≤ k ∧ mg a.nm = some (.ref f) ∧ PySem.W.keepIn K (.ref f) = true ∧ FnF P w K mg base j f a.n a.ks (a.sp g)
section
variable {P : Program} {w : World} {K : PySem.W.Frag} {mg : Str → Option Value} {base : Heap} {k : Nat} {g : Gx} {tb : List Cal}
theorem TabM.nil : TabM P w K mg base k g [] := fun _ h => nomatch h
theorem TabM.up {j : Nat} (t : TabM P w K mg base k g tb) (h : k ≤ j) : TabM P w K mg base j g tb := fun a ha => let ⟨f, i, l, r⟩ := t a ha; ⟨f, i, Nat.le_trans l h, r⟩
theorem TabM.snoc (t : TabM P w K mg base k g tb) {a : Cal} {f : Addr} (h1 : mg a.nm = some (.ref f)) (h2 : PySem.W.keepIn K (.ref f) = true) (h3 : FnF P w K mg base (k + 1) f a.n a.ks (a.sp g)) : TabM P w K mg base (k + 1) g (tb ++ [a]) := by
  intro b hb
  rcases List.mem_append.mp hb with hb | hb
  · exact t.up (Nat.le_succ k) b hb
  · obtain rfl := List.mem_singleton.mp hb
    exact ⟨f, k + 1, Nat.le_refl _, h1, h2, h3⟩
theorem bodyT {c : Cxt} {b : Ss} {body : List Stmt} (t : TabM P w K mg base k g tb) (h : mtSs tb b c body = true) : BodyOk P w K mg base k g c (evSs tb b) body := by
  intro X W e1 e2 e3 e4 e5 kc fn tk po rm
  subst e1 e2 e3 e4 e5
  exact sndSs ⟨kc, fn, po, tk, ⟨fun a ha => let ⟨f, j, l, h1, h2, h3⟩ := t a ha; ⟨⟨f, j, h1, h2, h3, rm.mono l⟩⟩⟩⟩ b body h
end
/-- one def of the text: the slots' names, the parameters, the ones that are told at the end -/
structure Df where
  nm : Str
  st : Stmt
  N : List Str
  ps : List Str
  keep : List Nat
  b : Ss
def Df.cx (d : Df) (con : List (Str × D)) : Cxt := ⟨d.N, (defScope d.st).names, con, d.keep, none⟩
noncomputable def Df.F (d : Df) (tb : List Cal) : List T → Option Out := denB (evSs tb d.b) d.ps.length d.N.length d.keep
noncomputable def Df.cal (d : Df) (tb : List Cal) : Cal := ⟨d.nm, d.ps.length, none, [], [], d.F tb⟩
noncomputable def Df.calK (d : Df) (tb : List Cal) (n : Nat) (ks : List Str) (idx : List Nat) : Cal := ⟨d.nm, n, none, ks, idx, d.F tb⟩
noncomputable def Df.calS (d : Df) (tb : List Cal) (n m : Nat) : Cal := ⟨d.nm, n, some m, [], [], d.F tb⟩
abbrev Df.Fun (d : Df) (K : PySem.W.Frag) (f : Addr) : Prop := ∃ fd, L2.Fun K d.nm d.nm d.st f fd
section
variable {P : Program} {w : World} {K : PySem.W.Frag} {mg : Str → Option Value} {base : Heap} {k : Nat} {g : Gx} {tb tb' : List Cal} {d : Df} {f : Addr} {con : List (Str × D)}
abbrev BindB (d : Df) (n : Nat) (ks : List Str) (idx : List Nat) : Prop := ∀ (kV doc pm : Value) (an : Option Addr) (cdv ct : Value) (us ws : List Value), us.length = n → ws.length = ks.length → bindArgs (PySem.W.fnOf d.nm d.nm (defArgs d.st) (defBody d.st) (defScope d.st) .none kV doc pm an cdv ct) ⟨us, ks.zip ws⟩ = pure (d.ps.zip (pickL idx (us ++ ws)))
abbrev BindP (d : Df) : Prop := ∀ (kV doc pm : Value) (an : Option Addr) (cdv ct : Value) (us : List Value), us.length = d.ps.length → bindArgs (PySem.W.fnOf d.nm d.nm (defArgs d.st) (defBody d.st) (defScope d.st) .none kV doc pm an cdv ct) ⟨us, []⟩ = pure (d.ps.zip us)
theorem Df.addP (M : Md g K mg con) (t : TabM P w K mg base k g tb') (F : d.Fun K f) (h1 : mg d.nm = some (.ref f)) (S : FnScope d.N d.ps (defScope d.st)) (t0 : TabM P w K mg base k g tb) (hm : mtSs tb d.b (d.cx con) (defBody d.st) = true) (hb : BindP d) : TabM P w K mg base (k + 1) g (tb' ++ [d.cal tb]) := by
  obtain ⟨fd, F⟩ := F
  exact t.snoc (a := d.cal tb) h1 F.kp (fnF_pl F M S rfl rfl rfl rfl rfl (bodyT t0 hm) hb)
theorem Df.addK {n : Nat} {ks : List Str} {idx : List Nat} {ky : Str} (M : Md g K mg con) (t : TabM P w K mg base k g tb') (F : d.Fun K f) (h1 : mg d.nm = some (.ref f)) (S : FnScope d.N d.ps (defScope d.st)) (t0 : TabM P w K mg base k g tb) (hm : mtSs tb d.b (d.cx con) (defBody d.st) = true)
    (hidx : idx.length = d.ps.length) (hix : ∀ j ∈ idx, j < n + (ky :: ks).length) (hb : BindB d n (ky :: ks) idx) : TabM P w K mg base (k + 1) g (tb' ++ [d.calK tb n (ky :: ks) idx]) := by
  obtain ⟨fd, F⟩ := F
  exact t.snoc (a := d.calK tb n (ky :: ks) idx) h1 F.kp (fnF_kw F M S rfl rfl rfl rfl rfl (bodyT t0 hm) hidx hix hb)
theorem Df.addS {n : Nat} {qs : List Str} {pv : Str} (M : Md g K mg con) (t : TabM P w K mg base k g tb') (F : d.Fun K f) (h1 : mg d.nm = some (.ref f)) (hps : d.ps = qs ++ [pv]) (S : FnScope d.N (qs ++ [pv]) (defScope d.st)) (t0 : TabM P w K mg base k g tb) (hm : mtSs tb d.b (d.cx con) (defBody d.st) = true)
    (hn : qs.length ≤ n) (hb : ∀ (kV doc pm : Value) (an : Option Addr) (cdv ct : Value) (us : List Value), us.length = n → bindArgs (PySem.W.fnOf d.nm d.nm (defArgs d.st) (defBody d.st) (defScope d.st) .none kV doc pm an cdv ct) ⟨us, []⟩ = (newTuple (us.drop qs.length) >>= fun t => pure (qs.zip (us.take qs.length) ++ [(pv, t)]))) :
    TabM P w K mg base (k + 1) g (tb' ++ [d.calS tb n qs.length]) := by
  obtain ⟨fd, F⟩ := F
  refine t.snoc (a := d.calS tb n qs.length) h1 F.kp ?_
  have z := fnF_st F M S rfl rfl rfl rfl rfl (bodyT t0 hm) hn hb
  have e : d.ps.length = qs.length + 1 := by rw [hps, List.length_append]; rfl
  show FnF P w K mg base (k + 1) f n [] (spStar g (denB (evSs tb d.b) d.ps.length d.N.length d.keep) qs.length)
  rw [e]
  exact z
end
end DL
namespace DL
open PySem PySem.Spec PyProof.Rows L2

/-! ### the facts of a head, of defs that stand at the top of one module -/
abbrev Dn := List (Str × Nat)
def topOf (b : List Stmt) (i : Nat) : Stmt := b.getD i (.Pass ⟨0, 0, 0, 0⟩)
def hOne (b : List Stmt) (p : Str × Nat) : He.FnD := ⟨(p.1, none), p.1, p.1, defArgs (topOf b p.2), defBody (topOf b p.2), defScope (topOf b p.2)⟩
def hFn (b : List Stmt) (dn : Dn) : List He.FnD := dn.map (hOne b)
def conFa : Str × D → List He.Fa
  | (x, .int i) => [.int x i]
  | (x, .str z) => [.str x z]
  | _ => []
def hFa (dn : Dn) (con : List (Str × D)) (more : List He.Fa) : List He.Fa := dn.map (fun p => .glo p.1) ++ dn.map (fun p => .keep p.1) ++ builtinNames.map .free ++ con.flatMap conFa ++ more
section
variable {b : List Stmt} {dn : Dn} {con : List (Str × D)} {more : List He.Fa} {K : PySem.W.Frag} {h : Heap} {mg : Str → Option Value} {g : Gx}
theorem says_mem {fa : List He.Fa} {fn : List He.FnD} (c : He.SaysE fa fn K) {f : He.Fa} (m : f ∈ fa) : f.ok K = true := by
  obtain ⟨i, hi⟩ := List.mem_iff_getElem?.mp m
  exact c.fact i hi
theorem hdr_fun (c : He.SaysE (hFa dn con more) (hFn b dn) K) {p : Str × Nat} (m : p ∈ dn) : ∃ fd, Fun K p.1 p.1 (topOf b p.2) (He.ga K p.1) fd := by
  have m2 : hOne b p ∈ hFn b dn := List.mem_map.mpr ⟨p, m, rfl⟩
  obtain ⟨i, hi⟩ := List.mem_iff_getElem?.mp m2
  obtain ⟨oc, od, osl, kV, doc, pm, an, cdv, ct, lk, cd⟩ := c.def_ i hi
  exact ⟨_, ⟨oc, od, kV, doc, pm, an, cdv, ct, osl, rfl, lk, cd⟩, He.keep_ok (x := p.1) (says_mem c (by
    unfold hFa
    simp only [List.mem_append, List.mem_map]
    exact .inl (.inl (.inl (.inr ⟨p, m, rfl⟩)))))⟩
theorem hdr_mg (c : He.SaysE (hFa dn con more) (hFn b dn) K) (X : K.In h) (G : h.Ns mainGlobals mg) {p : Str × Nat} (m : p ∈ dn) : mg p.1 = some (.ref (He.ga K p.1)) :=
  He.glo_ok X G (says_mem c (by
    unfold hFa
    simp only [List.mem_append, List.mem_map]
    exact .inl (.inl (.inl (.inl ⟨p, m, rfl⟩)))))
def conOk (con : List (Str × D)) : Bool := con.all fun p => match p.2 with
  | .int _ => true
  | .str _ => true
  | _ => false
theorem hdr_md (c : He.SaysE (hFa dn con more) (hFn b dn) K) (X : K.In h) (G : h.Ns mainGlobals mg) (hk : g.K = K) (ok : conOk con = true) : Md g K mg con := by
  have cm : ∀ p ∈ con, ∀ f ∈ conFa p, f ∈ hFa dn con more := fun p hp f hf => by
    unfold hFa
    simp only [List.mem_append, List.mem_flatMap]
    exact .inl (.inr ⟨p, hp, hf⟩)
  refine ⟨hk, fun x hx => He.free_ok X G (says_mem c (by
    unfold hFa
    simp only [List.mem_append, List.mem_map]
    exact .inl (.inl (.inr ⟨x, hx, rfl⟩)))), fun p hp => ?_⟩
  have z := (List.all_eq_true.mp ok) p hp
  obtain ⟨x, d⟩ := p
  cases d <;> first | (cases z; done) | skip
  · obtain ⟨t, e⟩ := He.int_ok X G (says_mem c (cm _ hp _ (List.mem_singleton.mpr rfl)))
    exact ⟨rfl, _, e, t, rfl⟩
  · obtain ⟨t, e⟩ := He.str_ok X G (says_mem c (cm _ hp _ (List.mem_singleton.mpr rfl)))
    exact ⟨rfl, _, e, t, rfl⟩
end
section
variable {P : Program} {w : World} {K : PySem.W.Frag} {mg : Str → Option Value} {base : Heap} {k : Nat} {g : Gx} {tb : List Cal} {d : Df} {f : Addr} {con : List (Str × D)}
theorem Df.fn (M : Md g K mg con) (F : d.Fun K f) (S : FnScope d.N d.ps (defScope d.st)) (t0 : TabM P w K mg base k g tb) (hm : mtSs tb d.b (d.cx con) (defBody d.st) = true) (hb : BindP d) : FnF P w K mg base (k + 1) f d.ps.length [] (SpD g (d.F tb)) := by
  obtain ⟨fd, F⟩ := F
  exact fnF_pl F M S rfl rfl rfl rfl rfl (bodyT t0 hm) hb
end
end DL
namespace DL
open PySem PySem.Spec PyProof.Rows L2

/-! ### reckoning with terms -/
abbrev iD' (ns : List Int) : List D := ns.map D.int
theorem evT_lit (d : D) (ρ : Sl) : evT (.lit d) ρ = d.tru := rfl
theorem evT_sl (i : Nat) (ρ : Sl) : evT (.sl i) ρ = (evP (.sl i) ρ).bind fun x => x.d.tru := rfl
theorem evT_gl (x : Str) (d : D) (ρ : Sl) : evT (.gl x d) ρ = d.tru := rfl
theorem evT_op (o : O2) (a b : P) (ρ : Sl) : evT (.op o a b) ρ = (evP (.op o a b) ρ).bind fun x => x.d.tru := rfl
theorem evT_ch (o o' : O2) (a b d : P) (ρ : Sl) : evT (.ch o o' a b d) ρ = (evP (.ch o o' a b d) ρ).bind fun x => x.d.tru := rfl
theorem evT_not (a : P) (ρ : Sl) : evT (.not a) ρ = (evT a ρ).map fun k => !k := rfl
theorem evT_and (a b : P) (ρ : Sl) : evT (.and a b) ρ = (match evT a ρ with
    | some true => evT b ρ
    | some false => some false
    | none => none) := rfl
theorem evT_or (a b : P) (ρ : Sl) : evT (.or a b) ρ = (match evT a ρ with
    | some true => some true
    | some false => evT b ρ
    | none => none) := rfl
theorem evT_ife (t a b : P) (ρ : Sl) : evT (.ife t a b) ρ = (match evT t ρ with
    | some true => evT a ρ
    | some false => evT b ρ
    | none => none) := rfl
theorem evT_neg (a : P) (ρ : Sl) : evT (.neg a) ρ = (evP (.neg a) ρ).bind fun x => x.d.tru := rfl
theorem evT_ix (a b : P) (ρ : Sl) : evT (.ix a b) ρ = (evP (.ix a b) ρ).bind fun x => x.d.tru := rfl
theorem evT_b1 (b : B1) (a : P) (ρ : Sl) : evT (.b1 b a) ρ = (evP (.b1 b a) ρ).bind fun x => x.d.tru := rfl
theorem evT_b2 (b : B2) (a d : P) (ρ : Sl) : evT (.b2 b a d) ρ = (evP (.b2 b a d) ρ).bind fun x => x.d.tru := rfl
theorem evT_isi (a : P) (t : Ty) (ρ : Sl) : evT (.isi a t) ρ = (evP (.isi a t) ρ).bind fun x => x.d.tru := rfl
theorem bR_ok {α β : Type} (a : α) (ρ : Sl) (k : α → Sl → Option (Rs β)) : bindR (some (.ok a ρ)) k = k a ρ := rfl
theorem bR_ex {α β : Type} (c : Nat) (t : T) (ρ : Sl) (k : α → Sl → Option (Rs β)) : bindR (some (.ex c t ρ)) k = some (.ex c t ρ) := rfl
theorem bR_no {α β : Type} (k : α → Sl → Option (Rs β)) : bindR none k = none := rfl
theorem bE_ok {α : Type} (a : α) (ρ : Sl) (k : α → Sl → Option Fl) : bindE (some (.ok a ρ)) k = k a ρ := rfl
theorem bE_ex {α : Type} (c : Nat) (t : T) (ρ : Sl) (k : α → Sl → Option Fl) : bindE (some (Rs.ex (α := α) c t ρ)) k = some (.ex c t ρ) := rfl
theorem bE_no {α : Type} (k : α → Sl → Option Fl) : bindE none k = none := rfl
theorem bF_nx (ρ : Sl) (k : Sl → Option Fl) : bindF (some (.nx ρ)) k = k ρ := rfl
theorem bF_ret (t : T) (ρ : Sl) (k : Sl → Option Fl) : bindF (some (.ret t ρ)) k = some (.ret t ρ) := rfl
theorem bF_bk (ρ : Sl) (k : Sl → Option Fl) : bindF (some (.bk ρ)) k = some (.bk ρ) := rfl
theorem bF_ct (ρ : Sl) (k : Sl → Option Fl) : bindF (some (.ct ρ)) k = some (.ct ρ) := rfl
theorem bF_ex (c : Nat) (t : T) (ρ : Sl) (k : Sl → Option Fl) : bindF (some (.ex c t ρ)) k = some (.ex c t ρ) := rfl
theorem bF_no (k : Sl → Option Fl) : bindF none k = none := rfl
theorem oR_s {α : Type} (a : α) (ρ : Sl) : okR (some a) ρ = some (.ok a ρ) := rfl
theorem oR_n {α : Type} (ρ : Sl) : okR (none : Option α) ρ = none := rfl
theorem d_fz (d : D) : T.d (.fz d) = d := rfl
theorem d_lst (ts : List T) : T.d (.lst ts) = .lst (ts.map T.d) := by rw [T.d, T.ds_map]
theorem d_tup (ts : List T) : T.d (.tup ts) = .tup (ts.map T.d) := by rw [T.d, T.ds_map]
theorem o_add (i j : Int) : o2 .add (.int i) (.int j) = some (.int (i + j)) := rfl
theorem o_adds (i j : Str) : o2 .add (.str i) (.str j) = if i.length + j.length ≤ sizeLine then some (.str (i ++ j)) else none := rfl
theorem o_sub (i j : Int) : o2 .sub (.int i) (.int j) = some (.int (i - j)) := rfl
theorem o_mul (i j : Int) : o2 .mul (.int i) (.int j) = if mulB i j = true then some (.int (i * j)) else none := rfl
theorem o_fdiv (i j : Int) : o2 .fdiv (.int i) (.int j) = if divB j = true then some (.int (i / j)) else none := rfl
theorem o_mod (i j : Int) : o2 .mod (.int i) (.int j) = if 0 < j then some (.int (i % j)) else none := rfl
theorem o_pow (i j : Int) : o2 .pow (.int i) (.int j) = if powB i j = true then some (.int (i ^ j.toNat)) else none := rfl
theorem o_lt (i j : Int) : o2 .lt (.int i) (.int j) = some (.bl (decide (i < j))) := rfl
theorem o_le (i j : Int) : o2 .le (.int i) (.int j) = some (.bl (decide (i ≤ j))) := rfl
theorem o_gt (i j : Int) : o2 .gt (.int i) (.int j) = some (.bl (decide (j < i))) := rfl
theorem o_ge (i j : Int) : o2 .ge (.int i) (.int j) = some (.bl (decide (j ≤ i))) := rfl
theorem eqv_int (i j : Int) : PyData.eqv (.int i) (.int j) = decide (i = j) := by
  simp only [PyData.eqv]
  rfl
theorem cmp_int (i : Int) : D.cmp (.int i) = true := rfl
theorem cmp_bl (i : Bool) : D.cmp (.bl i) = true := rfl
theorem o_eq (i j : Int) : o2 .eq (.int i) (.int j) = some (.bl (decide (i = j))) := by
  show (if (D.int i).cmp = true ∧ (D.int j).cmp = true then some (D.bl (PyData.eqv (.int i) (.int j))) else none) = _
  rw [if_pos ⟨cmp_int i, cmp_int j⟩, eqv_int]
theorem o_ne (i j : Int) : o2 .ne (.int i) (.int j) = some (.bl (!decide (i = j))) := by
  show (if (D.int i).cmp = true ∧ (D.int j).cmp = true then some (D.bl (!PyData.eqv (.int i) (.int j))) else none) = _
  rw [if_pos ⟨cmp_int i, cmp_int j⟩, eqv_int]
theorem o_isN (a : D) : o2 .isN a .non = some (.bl a.isNon) := rfl
theorem o_isnN (a : D) : o2 .isnN a .non = some (.bl (!a.isNon)) := rfl
theorem o_in (a b : D) : o2 .isin a b = (isIn a b).map D.bl := rfl
theorem o_nin (a b : D) : o2 .notin a b = (isIn a b).map fun k => D.bl (!k) := rfl
theorem shaped_ints {ds : List D} : (∀ d ∈ ds, ∃ i, d = .int i) → PyData.canLayAll0 (D.pys ds) = true ∧ PyData.depthAll (D.pys ds) ≤ 1 := by
  induction ds with
  | nil => intro _; exact ⟨rfl, by decide⟩
  | cons d ds ih =>
    intro h
    obtain ⟨i, rfl⟩ := h d (by simp)
    obtain ⟨h1, h2⟩ := ih fun e he => h e (by simp [he])
    refine ⟨by simp [D.pys, D.py, PyData.canLayAll0, PyData.canLay0, h1], ?_⟩
    simp only [D.pys, D.py, PyData.depthAll, PyData.depth]
    omega
theorem any_ints (ns : List Int) (i : Int) : ((iD' ns).any fun z => PyData.eqv z.py (D.int i).py) = decide (i ∈ ns) := by
  induction ns with
  | nil => rfl
  | cons n ns ih =>
    simp only [iD', List.map_cons, List.any_cons] at ih ⊢
    rw [ih]
    show (PyData.eqv (.int n) (.int i) || _) = _
    rw [eqv_int]
    by_cases h : n = i
    · subst h; simp
    · have h' : ¬ i = n := fun e => h e.symm
      simp [h, h']
theorem in_ints (ns : List Int) (i : Int) : isIn (.int i) (.lst (ns.map D.int)) = some (decide (i ∈ ns)) := by
  have z := shaped_ints (ds := ns.map D.int) (fun d hd => by
    obtain ⟨n, _, rfl⟩ := List.mem_map.mp hd
    exact ⟨n, rfl⟩)
  have c : D.cmp (.lst (ns.map D.int)) = true := by
    unfold D.cmp SeqAt.shaped
    simp only [D.py, PyData.canLay0, PyData.depth, z.1, Bool.true_and, decide_eq_true_eq]
    have := z.2
    omega
  show (if (D.int i).cmp = true ∧ (D.lst (ns.map D.int)).cmp = true then some ((ns.map D.int).any fun z => PyData.eqv z.py (D.int i).py) else none) = _
  rw [if_pos ⟨cmp_int i, c⟩]
  exact congrArg some (any_ints ns i)
theorem in_intsT (ns : List Int) (i : Int) : isIn (.int i) (.tup (ns.map D.int)) = some (decide (i ∈ ns)) := by
  have z := shaped_ints (ds := ns.map D.int) (fun d hd => by
    obtain ⟨n, _, rfl⟩ := List.mem_map.mp hd
    exact ⟨n, rfl⟩)
  have c : D.cmp (.tup (ns.map D.int)) = true := by
    unfold D.cmp SeqAt.shaped
    simp only [D.py, PyData.canLay0, PyData.depth, z.1, Bool.true_and, decide_eq_true_eq]
    have := z.2
    omega
  show (if (D.int i).cmp = true ∧ (D.tup (ns.map D.int)).cmp = true then some ((ns.map D.int).any fun z => PyData.eqv z.py (D.int i).py) else none) = _
  rw [if_pos ⟨cmp_int i, c⟩]
  exact congrArg some (any_ints ns i)
theorem x_fl (ds : List D) (i : Int) : ixT (.fz (.lst ds)) (.int i) = (atI ds i).map T.fz := rfl
theorem x_ft (ds : List D) (i : Int) : ixT (.fz (.tup ds)) (.int i) = (atI ds i).map T.fz := rfl
theorem x_fs (ds : List Int) (i : Int) : ixT (.fz (.scr ds)) (.int i) = (atI ds i).map fun n => T.fz (.int n) := rfl
theorem x_l (ts : List T) (i : Int) : ixT (.lst ts) (.int i) = atI ts i := rfl
theorem x_t (ts : List T) (i : Int) : ixT (.tup ts) (.int i) = atI ts i := rfl
theorem b_lens (s : Str) : b1D .len (.str s) = if s.length ≤ sizeLine then some (.int s.length) else none := rfl
theorem b_lenl (xs : List D) : b1D .len (.lst xs) = some (.int xs.length) := rfl
theorem b_lent (xs : List D) : b1D .len (.tup xs) = some (.int xs.length) := rfl
theorem b_lenr (xs : List Int) : b1D .len (.scr xs) = some (.int xs.length) := rfl
theorem b_int (i : Int) : b1D .int (.int i) = some (.int i) := rfl
theorem b_intb (b : Bool) : b1D .int (.bl b) = some (.int (if b then 1 else 0)) := rfl
def absZ (i : Int) : Int := if i < 0 then -i else i
def minZ (i j : Int) : Int := if j < i then j else i
def maxZ (i j : Int) : Int := if j > i then j else i
theorem absZ_nn (i : Int) : 0 ≤ absZ i := by unfold absZ; split <;> omega
theorem minZ_le (i j : Int) : minZ i j ≤ i ∧ minZ i j ≤ j ∧ (minZ i j = i ∨ minZ i j = j) := by unfold minZ; split <;> omega
theorem maxZ_le (i j : Int) : i ≤ maxZ i j ∧ j ≤ maxZ i j ∧ (maxZ i j = i ∨ maxZ i j = j) := by unfold maxZ; split <;> omega
theorem b_abs (i : Int) : b1D .abs (.int i) = some (.int (absZ i)) := rfl
theorem b_min (i j : Int) : b2D .min (.int i) (.int j) = some (.int (minZ i j)) := rfl
theorem b_max (i j : Int) : b2D .max (.int i) (.int j) = some (.int (maxZ i j)) := rfl
theorem t_bl (b : Bool) : D.tru (.bl b) = some b := rfl
theorem t_int (i : Int) : D.tru (.int i) = some (i != 0) := rfl
theorem t_lst (xs : List D) : D.tru (.lst xs) = some (!xs.isEmpty) := rfl
theorem t_tup (xs : List D) : D.tru (.tup xs) = some (!xs.isEmpty) := rfl
theorem t_non : D.tru .non = some false := rfl
theorem n_int (i : Int) : negD (.int i) = some (.int (-i)) := rfl
theorem z_fz (d : D) : fzD (.fz d) = some d := rfl
theorem i_ii (i : Int) : isiD .int (.int i) = some true := rfl
theorem i_bi (i : Int) : isiD .bool (.int i) = some false := rfl
theorem i_bb (b : Bool) : isiD .bool (.bl b) = some true := rfl
theorem i_ib (b : Bool) : isiD .int (.bl b) = some true := rfl
theorem nn_int (i : Int) : D.isNon (.int i) = false := rfl
theorem nn_non : D.isNon .non = true := rfl
theorem o_neb (a b : Bool) : o2 .ne (.bl a) (.bl b) = some (.bl (!decide (a = b))) := by
  show (if (D.bl a).cmp = true ∧ (D.bl b).cmp = true then some (D.bl (!PyData.eqv (.bool a) (.bool b))) else none) = _
  rw [if_pos ⟨cmp_bl a, cmp_bl b⟩]
  cases a <;> cases b <;> rfl
theorem o_eqb (a b : Bool) : o2 .eq (.bl a) (.bl b) = some (.bl (decide (a = b))) := by
  show (if (D.bl a).cmp = true ∧ (D.bl b).cmp = true then some (D.bl (PyData.eqv (.bool a) (.bool b))) else none) = _
  rw [if_pos ⟨cmp_bl a, cmp_bl b⟩]
  cases a <;> cases b <;> rfl
theorem l_lst (ds : List D) : lstD (.lst ds) = some ds := rfl
theorem l_tup (ds : List D) : tupD (.tup ds) = some ds := rfl
theorem l_int (i : Int) : intD (.int i) = some i := rfl
theorem k_ft (ds : List D) : kidsT (.fz (.tup ds)) = some (ds.map T.fz) := rfl
theorem k_t (ts : List T) : kidsT (.tup ts) = some ts := rfl
theorem y_fl (ds : List D) : lstItems (.fz (.lst ds)) = some (ds.map T.fz) := rfl
theorem y_l (ts : List T) : lstItems (.lst ts) = some ts := rfl
theorem a_ints (i j : Int) : addT (.fz (.int i)) (.fz (.int j)) = some (.fz (.int (i + j))) := rfl
theorem a_ll (x y : List T) : addT (.lst x) (.lst y) = if x.length + y.length ≤ sizeLine then some (.lst (x ++ y)) else none := rfl
theorem a_fl (x : List D) (y : List T) : addT (.fz (.lst x)) (.lst y) = if (x.map T.fz).length + y.length ≤ sizeLine then some (.lst (x.map T.fz ++ y)) else none := rfl
theorem a_lf (x : List T) (y : List D) : addT (.lst x) (.fz (.lst y)) = if x.length + (y.map T.fz).length ≤ sizeLine then some (.lst (x ++ y.map T.fz)) else none := rfl
theorem a_ff (x y : List D) : addT (.fz (.lst x)) (.fz (.lst y)) = if (x.map T.fz).length + (y.map T.fz).length ≤ sizeLine then some (.lst (x.map T.fz ++ y.map T.fz)) else none := rfl
theorem m_app (ts : List T) (u : T) : mmT .append (.lst ts) [u] = if ts.length < sizeLine then some (.lst (ts ++ [u]), .fz .non) else none := rfl
theorem m_ext (ts us : List T) : mmT .extend (.lst ts) [.lst us] = if ts.length + us.length ≤ sizeLine then some (.lst (ts ++ us), .fz .non) else none := rfl
theorem s_lst (ts : List T) (i : Int) (u : T) : setT (.lst ts) (.int i) u = (ixN ts.length i).map fun j => .lst (ts.set j u) := rfl
theorem st_n (i : Nat) (t : T) (ρ : Sl) : stT (.n i) t ρ = if i < ρ.length then some (ρ.set i (some t)) else none := rfl
theorem st_t (ts : Tgs) (t : T) (ρ : Sl) : stT (.t ts) t ρ = (match kidsT t with
    | some us => stTs ts us ρ
    | none => none) := rfl
theorem sts_n (ρ : Sl) : stTs .nil [] ρ = some ρ := rfl
theorem sts_c (a : Tg) (r : Tgs) (t : T) (ts : List T) (ρ : Sl) : stTs (.cons a r) (t :: ts) ρ = (match stT a t ρ with
    | some ρ' => stTs r ts ρ'
    | none => none) := rfl
theorem r_own (t : T) (r : List AV) : lendA (.own t :: r) = lendA r := rfl
theorem isFz_fz (d : D) : isFz (.fz d) = true := rfl
/-! data that are lists of ints -/
abbrev iD (ns : List Int) : List D := ns.map D.int
abbrev iT (ns : List Int) : List T := ns.map fun n => T.fz (.int n)
theorem ds_iT (ns : List Int) : T.ds (iT ns) = iD ns := by
  rw [T.ds_map]
  simp [iT, iD, Function.comp, T.d]
/-! bounds of bits -/
theorem bits_of {x : Int} {m : Nat} (h : x.natAbs < 2 ^ m) : Builtin.Int.intBits x ≤ m := intBits_le_iff.mpr h
theorem mulB_of {i j : Int} {m n : Nat} (hi : i.natAbs < 2 ^ m) (hj : j.natAbs < 2 ^ n) (h : m + n ≤ 134217728) : mulB i j = true := by
  have h1 := bits_of hi
  have h2 := bits_of hj
  unfold mulB
  rw [decide_eq_true_eq]
  omega
theorem powB_of {i : Int} {j m : Nat} (hi : i.natAbs < 2 ^ m) (h : m * j ≤ 134217728) : powB i (j : Int) = true := by
  have h1 := bits_of hi
  unfold powB
  rw [Bool.and_eq_true, decide_eq_true_eq, decide_eq_true_eq]
  refine ⟨Int.natCast_nonneg _, ?_⟩
  have h2 : Builtin.Int.intBits i * j ≤ m * j := Nat.mul_le_mul_right j h1
  have h3 : ((Builtin.Int.intBits i * j : Nat) : Int) ≤ ((134217728 : Nat) : Int) := Int.ofNat_le.mpr (Nat.le_trans h2 h)
  rw [Int.natCast_mul] at h3
  exact h3
theorem divB_of {j : Int} (h0 : 0 < j) (h : j.natAbs < 2 ^ 9000) : divB j = true := by
  unfold divB
  rw [Bool.and_eq_true, decide_eq_true_eq, decide_eq_true_eq]
  refine ⟨h0, ?_⟩
  exact (Nat.log2_lt (by omega)).mpr h
theorem divB_le {j : Int} (h0 : 0 < j) (h : j ≤ 10000000000000000000000000000000) : divB j = true := by
  have h1 : j.natAbs < 2 ^ 120 := by omega
  unfold divB
  rw [Bool.and_eq_true, decide_eq_true_eq, decide_eq_true_eq]
  refine ⟨h0, ?_⟩
  have h2 : j.natAbs.log2 < 120 := (Nat.log2_lt (by omega)).mpr h1
  omega
end DL
namespace DL
open PySem PySem.Spec PyProof.Rows L2

/-! ### loops, reckoned -/
/-- a for with an invariant that tells what is done and what is left -/
theorem for_inv {st : T → Sl → Option Sl} {fb : Sl → Option Fl} {ds : List D} {ρ : Sl} (I : List D → List D → Sl → Prop) (h0 : I [] ds ρ)
    (step : ∀ done d r ρ, ds = done ++ d :: r → I done (d :: r) ρ → ∃ ρ1, st (.fz d) ρ = some ρ1 ∧ ∃ ρ2, (fb ρ1 = some (.nx ρ2) ∨ fb ρ1 = some (.ct ρ2)) ∧ I (done ++ [d]) r ρ2) :
    ∃ ρ', forF st fb ds ρ = some (.nx ρ') ∧ I ds [] ρ' := by
  have go : ∀ (rest done : List D) (ρ : Sl), ds = done ++ rest → I done rest ρ → ∃ ρ', forF st fb rest ρ = some (.nx ρ') ∧ I ds [] ρ' := by
    intro rest
    induction rest with
    | nil =>
      intro done ρ e i
      rw [List.append_nil] at e
      subst e
      exact ⟨ρ, rfl, i⟩
    | cons d r ih =>
      intro done ρ e i
      obtain ⟨ρ1, h1, ρ2, h2, i2⟩ := step done d r ρ e i
      obtain ⟨ρ', h3, i3⟩ := ih (done ++ [d]) ρ2 (by rw [e]; simp) i2
      refine ⟨ρ', ?_, i3⟩
      unfold forF
      rw [h1]
      rcases h2 with h2 | h2 <;> simp only [h2] <;> exact h3
  exact go ds [] ρ rfl h0
/-- the same over ints -/
theorem for_ints {st : T → Sl → Option Sl} {fb : Sl → Option Fl} {ns : List Int} {ρ : Sl} (I : List Int → List Int → Sl → Prop) (h0 : I [] ns ρ)
    (step : ∀ done n r ρ, ns = done ++ n :: r → I done (n :: r) ρ → ∃ ρ1, st (.fz (.int n)) ρ = some ρ1 ∧ ∃ ρ2, (fb ρ1 = some (.nx ρ2) ∨ fb ρ1 = some (.ct ρ2)) ∧ I (done ++ [n]) r ρ2) :
    ∃ ρ', forF st fb (ns.map D.int) ρ = some (.nx ρ') ∧ I ns [] ρ' := by
  have go : ∀ (rest done : List Int) (ρ : Sl), ns = done ++ rest → I done rest ρ → ∃ ρ', forF st fb (rest.map D.int) ρ = some (.nx ρ') ∧ I ns [] ρ' := by
    intro rest
    induction rest with
    | nil =>
      intro done ρ e i
      rw [List.append_nil] at e
      subst e
      exact ⟨ρ, rfl, i⟩
    | cons d r ih =>
      intro done ρ e i
      obtain ⟨ρ1, h1, ρ2, h2, i2⟩ := step done d r ρ e i
      obtain ⟨ρ', h3, i3⟩ := ih (done ++ [d]) ρ2 (by rw [e]; simp) i2
      refine ⟨ρ', ?_, i3⟩
      rw [List.map_cons]
      unfold forF
      rw [h1]
      rcases h2 with h2 | h2 <;> simp only [h2] <;> exact h3
  exact go ns [] ρ rfl h0
/-- a comprehension that changes nothing -/
theorem lc_pure {α : Type} {st : T → Sl → Option Sl} {ft : Sl → Option (Rs Bool)} {fe : Sl → Option (Rs T)} {vs : List Nat} {ρ0 : Sl} {em : α → D} (P : α → Bool) (f : α → T) (hw : wipeT ρ0 vs = ρ0) : ∀ (xs : List α) (acc : List T), acc.length + xs.length ≤ sizeLine →
    (∀ x ∈ xs, ∃ ρ1 ρ2, st (.fz (em x)) ρ0 = some ρ1 ∧ ft ρ1 = some (.ok (P x) ρ2) ∧ wipeT ρ2 vs = ρ0 ∧ (P x = true → ∃ ρ3, fe ρ2 = some (.ok (f x) ρ3) ∧ wipeT ρ3 vs = ρ0)) →
    lcF st ft fe vs (xs.map em) ρ0 acc = some (.ok (acc ++ (xs.filter P).map f) ρ0)
  | [], acc, _, _ => by
    rw [List.map_nil, lcF, hw]
    simp
  | x :: xs, acc, hl, h => by
    obtain ⟨ρ1, ρ2, h1, h2, h3, h4⟩ := h x (by simp)
    have ih := fun acc hl => lc_pure P f hw xs acc hl fun y hy => h y (by simp [hy])
    rw [List.length_cons] at hl
    rw [List.map_cons]
    unfold lcF
    rw [h1]
    simp only [h2]
    cases hp : P x with
    | false =>
      simp only [h3]
      rw [ih acc (by omega), List.filter_cons, hp]
      rfl
    | true =>
      obtain ⟨ρ3, h5, h6⟩ := h4 hp
      simp only [h5, h6]
      rw [if_pos (by omega), ih (acc ++ [f x]) (by rw [List.length_append, List.length_singleton]; omega), List.filter_cons, hp]
      simp
theorem filtT {α : Type} (xs : List α) : (xs.filter fun _ => true) = xs := by simp
theorem lc_p {α : Type} {st : T → Sl → Option Sl} {ft : Sl → Option (Rs Bool)} {fe : Sl → Option (Rs T)} {vs : List Nat} {ρ0 : Sl} {em : α → D} (P : α → Bool) (f : α → T) (hw : wipeT ρ0 vs = ρ0) (xs : List α) (hl : xs.length ≤ 16777216)
    (h : ∀ x ∈ xs, ∃ ρ1, st (.fz (em x)) ρ0 = some ρ1 ∧ wipeT ρ1 vs = ρ0 ∧ ft ρ1 = some (.ok (P x) ρ1) ∧ (P x = true → fe ρ1 = some (.ok (f x) ρ1))) :
    lcF st ft fe vs (xs.map em) ρ0 [] = some (.ok ((xs.filter P).map f) ρ0) := by
  have z := lc_pure (st := st) (ft := ft) (fe := fe) (em := em) P f hw xs [] (by rw [PySem.sizeLine_eq]; simpa using hl) fun x hx => let ⟨ρ1, h1, h2, h3, h4⟩ := h x hx; ⟨ρ1, ρ1, h1, h3, h2, fun hp => ⟨ρ1, h4 hp, h2⟩⟩
  rw [z, List.nil_append]
theorem lc_m {α : Type} {st : T → Sl → Option Sl} {ft : Sl → Option (Rs Bool)} {fe : Sl → Option (Rs T)} {vs : List Nat} {ρ0 : Sl} {em : α → D} (f : α → T) (hw : wipeT ρ0 vs = ρ0) (xs : List α) (hl : xs.length ≤ 16777216)
    (h : ∀ x ∈ xs, ∃ ρ1, st (.fz (em x)) ρ0 = some ρ1 ∧ wipeT ρ1 vs = ρ0 ∧ ft ρ1 = some (.ok true ρ1) ∧ fe ρ1 = some (.ok (f x) ρ1)) :
    lcF st ft fe vs (xs.map em) ρ0 [] = some (.ok (xs.map f) ρ0) := by
  have z := lc_p (st := st) (ft := ft) (fe := fe) (em := em) (fun _ => true) f hw xs hl fun x hx => let ⟨ρ1, h1, h2, h3, h4⟩ := h x hx; ⟨ρ1, h1, h2, h3, fun _ => h4⟩
  rw [z, filtT]
/-- a comprehension with an invariant -/
theorem lc_inv {st : T → Sl → Option Sl} {ft : Sl → Option (Rs Bool)} {fe : Sl → Option (Rs T)} {vs : List Nat} (I : List D → Sl → List T → Prop)
    (step : ∀ d r ρ acc, I (d :: r) ρ acc → ∃ ρ1 ρ2 b, st (.fz d) ρ = some ρ1 ∧ ft ρ1 = some (.ok b ρ2) ∧ (b = false → I r (wipeT ρ2 vs) acc) ∧ (b = true → ∃ t ρ3, fe ρ2 = some (.ok t ρ3) ∧ acc.length < sizeLine ∧ I r (wipeT ρ3 vs) (acc ++ [t]))) :
    ∀ (ds : List D) (ρ : Sl) (acc : List T), I ds ρ acc → ∃ acc' ρ', lcF st ft fe vs ds ρ acc = some (.ok acc' (wipeT ρ' vs)) ∧ I [] ρ' acc'
  | [], ρ, acc, i => ⟨acc, ρ, rfl, i⟩
  | d :: ds, ρ, acc, i => by
    obtain ⟨ρ1, ρ2, b, h1, h2, h3, h4⟩ := step d ds ρ acc i
    unfold lcF
    rw [h1]
    simp only [h2]
    cases b with
    | false => exact lc_inv I step ds _ _ (h3 rfl)
    | true =>
      obtain ⟨t, ρ3, h5, h6, h7⟩ := h4 rfl
      simp only [h5]
      rw [if_pos h6]
      exact lc_inv I step ds _ _ h7
/-! ranges -/
def rg (a : Int) (n : Nat) : List Int := (List.range n).map fun (i : Nat) => a + (i : Int)
theorem rngL_rg (a : Int) : ∀ n, rngL a 1 n = (rg a n).map D.int := by
  intro n
  induction n generalizing a with
  | zero => rfl
  | succ n ih =>
    rw [rngL, ih (a + 1)]
    unfold rg
    rw [List.range_succ_eq_map, List.map_cons, List.map_cons, List.map_map, List.map_map, List.map_map]
    congr 1
    · simp
    · refine List.map_congr_left fun j _ => ?_
      simp only [Function.comp]
      congr 1
      omega
theorem mem_rg {a x : Int} {n : Nat} : x ∈ rg a n ↔ a ≤ x ∧ x < a + n := by
  unfold rg
  simp only [List.mem_map, List.mem_range]
  constructor
  · rintro ⟨i, hi, rfl⟩
    omega
  · rintro ⟨h1, h2⟩
    exact ⟨(x - a).toNat, by omega, by omega⟩
theorem rg_asc (a : Int) (n : Nat) : (rg a n).Pairwise (· < ·) := by
  unfold rg
  rw [List.pairwise_map]
  exact List.pairwise_lt_range.imp fun h => by omega
theorem rg_len (a : Int) (n : Nat) : (rg a n).length = n := by simp [rg]
theorem small_of {j : Int} (h0 : 0 ≤ j) (h : j < 2 ^ 62) : smallI j = true := by
  unfold smallI
  rw [Bool.and_eq_true, decide_eq_true_eq, decide_eq_true_eq]
  omega
theorem r1 {j : Int} (h0 : 0 ≤ j) (h : j < 2 ^ 62) : rng1D (.int j) = some ((rg 0 j.toNat).map D.int) := by
  show (if smallI j = true then some (rngL 0 1 j.toNat) else none) = _
  rw [if_pos (small_of h0 h), rngL_rg]
theorem r2 {i j : Int} (i0 : 0 ≤ i) (i1 : i < 2 ^ 62) (h0 : 0 ≤ j) (h : j < 2 ^ 62) : rng2D (.int i) (.int j) = some ((rg i (j - i).toNat).map D.int) := by
  show (if smallI i = true ∧ smallI j = true then some (rngL i 1 (j - i).toNat) else none) = _
  rw [if_pos ⟨small_of i0 i1, small_of h0 h⟩, rngL_rg]
theorem lrg {i j : Int} (i0 : 0 ≤ i) (h0 : 0 ≤ j) (h : j ≤ 16777216) (i1 : i ≤ 16777216) : rgD i j = some (.lst (iT (rg i (j - i).toNat))) := by
  unfold rgD
  rw [if_pos ⟨by omega, by omega, by omega, by omega, by omega⟩, rngL_rg, List.map_map]
  rfl
/-! lists of ints as they are read -/
theorem d_iT (ns : List Int) : (iT ns).map T.d = ns.map D.int := by
  rw [← T.ds_map]
  exact ds_iT ns
theorem intsD_i (ns : List Int) : intsD (ns.map D.int) = some ns := by
  induction ns with
  | nil => rfl
  | cons n ns ih => rw [List.map_cons, intsD, ih]; rfl
theorem blsD_b (bs : List Bool) : blsD (bs.map D.bl) = some bs := by
  induction bs with
  | nil => rfl
  | cons n ns ih => rw [List.map_cons, blsD, ih]; rfl
theorem ld_f (ds : List D) : lstDs (.fz (.lst ds)) = some ds := rfl
theorem ld_l (ts : List T) : lstDs (.lst ts) = some (ts.map T.d) := by
  unfold lstDs
  rw [d_lst]
  rfl
theorem bf_sortL (ns : List Int) : bfT .sorted [.lst (iT ns)] = some (.lst (iT (sortI ns))) := by
  show ((lstDs _).bind intsD).map _ = _
  rw [ld_l, d_iT]
  show (intsD _).map _ = _
  rw [intsD_i]
  rfl
theorem bf_sortF (ns : List Int) : bfT .sorted [.fz (.lst (ns.map D.int))] = some (.lst (iT (sortI ns))) := by
  show ((lstDs _).bind intsD).map _ = _
  rw [ld_f]
  show (intsD _).map _ = _
  rw [intsD_i]
  rfl
abbrev bT (bs : List Bool) : List T := bs.map fun b => T.fz (.bl b)
theorem d_bT (bs : List Bool) : (bT bs).map T.d = bs.map D.bl := by
  simp [bT, Function.comp, T.d]
theorem bf_allL (bs : List Bool) : bfT .all [.lst (bT bs)] = some (.fz (.bl (bs.all id))) := by
  show ((lstDs _).bind blsD).map _ = _
  rw [ld_l, d_bT]
  show (blsD _).map _ = _
  rw [blsD_b]
  rfl
theorem bf_anyL (bs : List Bool) : bfT .any [.lst (bT bs)] = some (.fz (.bl (bs.any id))) := by
  show ((lstDs _).bind blsD).map _ = _
  rw [ld_l, d_bT]
  show (blsD _).map _ = _
  rw [blsD_b]
  rfl
theorem bf_minL (n : Int) (ns : List Int) : bfT .min [.lst (T.fz (.int n) :: iT ns)] = some (.fz (.int (minI n ns))) := by
  have z : (lstDs (.lst (T.fz (.int n) :: iT ns))).bind intsD = some (n :: ns) := by
    rw [ld_l]
    have e : (T.fz (.int n) :: iT ns).map T.d = (n :: ns).map D.int := d_iT (n :: ns)
    rw [e]
    exact intsD_i (n :: ns)
  show (match (lstDs (.lst (T.fz (.int n) :: iT ns))).bind intsD with
    | some (n :: ns) => some (T.fz (.int (minI n ns)))
    | _ => none) = _
  rw [z]
theorem minI_le : ∀ (ns : List Int) (m : Int), minI m ns ≤ m ∧ (∀ x ∈ ns, minI m ns ≤ x) ∧ (minI m ns = m ∨ minI m ns ∈ ns)
  | [], m => ⟨Int.le_refl _, (fun _ h => nomatch h), .inl rfl⟩
  | n :: ns, m => by
    obtain ⟨h1, h2, h3⟩ := minI_le ns (if n < m then n else m)
    have e : minI m (n :: ns) = minI (if n < m then n else m) ns := rfl
    rw [e]
    refine ⟨?_, ?_, ?_⟩
    · split at h1 <;> split <;> omega
    · intro x hx
      rcases List.mem_cons.mp hx with rfl | hx
      · split at h1 <;> split <;> omega
      · exact h2 x hx
    · rcases h3 with h3 | h3
      · rw [h3]
        split
        · exact .inr (by simp)
        · exact .inl rfl
      · exact .inr (List.mem_cons_of_mem _ h3)
theorem bf_len (t : T) : bfT .len [t] = (b1D .len t.d).map T.fz := rfl
theorem bf_repr (t : T) : bfT .repr [t] = (reprD t.d).map T.fz := rfl
theorem bf_min2 (i j : Int) : bfT .min2 [.fz (.int i), .fz (.int j)] = some (.fz (.int (minZ i j))) := rfl
theorem bf_max2 (i j : Int) : bfT .max2 [.fz (.int i), .fz (.int j)] = some (.fz (.int (maxZ i j))) := rfl
theorem bf_divmod {i j : Int} (h0 : 0 < j) (h : j < 1073741824) : bfT .divmod [.fz (.int i), .fz (.int j)] = some (.fz (.tup [.int (i / j), .int (i % j)])) := by
  show (if 0 < j ∧ j < 1073741824 then some (T.fz (.tup [.int (i / j), .int (i % j)])) else none) = _
  rw [if_pos ⟨h0, h⟩]
theorem sset_if {ns : List Int} (h : ns.length + 1 < scanBound ∨ bigI ns = true) : ssetT (.lst (iT ns)) = some (.lst (iT (setI ns))) := by
  unfold ssetT
  rw [ld_l, d_iT]
  show (intsD _).bind _ = _
  rw [intsD_i]
  show (if ns.length + 1 < scanBound ∨ bigI ns = true then _ else none) = _
  rw [if_pos h]
theorem sset_l {ns : List Int} (h : ns.length < 4095) : ssetT (.lst (iT ns)) = some (.lst (iT (setI ns))) := by
  have sb : scanBound = 4096 := by decide
  exact sset_if (.inl (by omega))
theorem sset_b {ns : List Int} (h : bigI ns = true) : ssetT (.lst (iT ns)) = some (.lst (iT (setI ns))) := sset_if (.inr h)
theorem atI_nat {α : Type} {xs : List α} {i : Int} (h0 : 0 ≤ i) (h : i < xs.length) : atI xs i = xs[i.toNat]? := by
  unfold atI ixN
  rw [if_pos h0, if_pos h]
  rfl
theorem atI_in {α : Type} {xs : List α} {i : Int} (h0 : 0 ≤ i) (h : i < xs.length) : ∃ x, atI xs i = some x ∧ x ∈ xs := by
  rw [atI_nat h0 h]
  have hl : i.toNat < xs.length := by omega
  exact ⟨xs[i.toNat], List.getElem?_eq_getElem hl, List.getElem_mem hl⟩
theorem sIx_1 (n : Nat) : HT.sIx n 0 (some 1) = min 1 n := HT.sIx_nat n 0 1
theorem cut_1 {α : Type} (xs : List α) : cutG xs (some 1) none = xs.tail := by
  unfold cutG
  rw [HT.sIx_none, sIx_1]
  cases xs with
  | nil => rfl
  | cons x xs => simp [Nat.min_eq_left]
theorem sl_f (ds : List D) (lo hi : Option Int) : sliceT (.fz (.lst ds)) lo hi = some (.lst (cutG (ds.map T.fz) lo hi)) := rfl
theorem sl_l (ts : List T) (lo hi : Option Int) : sliceT (.lst ts) lo hi = some (.lst (cutG ts lo hi)) := rfl
theorem zip_l (ds es : List D) : zipD (.lst ds) (.lst es) = some (zipL ds es) := rfl
theorem zip_i : ∀ (ns ms : List Int), zipL (ns.map D.int) (ms.map D.int) = (ns.zip ms).map fun p => D.tup [.int p.1, .int p.2]
  | [], _ => by simp [zipL]
  | _ :: _, [] => by simp [zipL]
  | n :: ns, m :: ms => by
    rw [List.map_cons, List.map_cons, zipL, zip_i ns ms, List.zip_cons_cons, List.map_cons]
theorem asc_adj : ∀ {ns : List Int}, ns.Pairwise (· < ·) → ∀ p ∈ ns.zip ns.tail, p.1 < p.2
  | [], _, p, h => by simp at h
  | [_], _, p, h => by simp at h
  | a :: b :: r, h, p, hp => by
    simp only [List.tail_cons, List.zip_cons_cons, List.mem_cons] at hp
    rcases hp with rfl | hp
    · exact (List.pairwise_cons.mp h).1 b (by simp)
    · exact asc_adj (List.pairwise_cons.mp h).2 p hp
theorem len_lt {ns : List Int} {b : Int} (h0 : 0 ≤ b) (asc : ns.Pairwise (· < ·)) (h : ∀ x ∈ ns, 0 ≤ x ∧ x < b) : (ns.length : Int) ≤ b := by
  have nd : ns.Nodup := asc.imp fun h => by omega
  have sub : ns ⊆ rg 0 b.toNat := fun x hx => mem_rg.mpr ⟨(h x hx).1, by have := (h x hx).2; omega⟩
  have := nd.length_le_of_subset sub
  rw [rg_len] at this
  omega
theorem sort_asc {ns : List Int} (nd : ns.Nodup) : (sortI ns).Pairwise (· < ·) := by
  have h1 := sortI_le ns
  have h2 : (sortI ns).Nodup := (sortI_perm ns).nodup_iff.mpr nd
  exact (h1.and h2).imp fun ⟨a, b⟩ => by omega
theorem sort_mem {ns : List Int} {x : Int} : x ∈ sortI ns ↔ x ∈ ns := (sortI_perm ns).mem_iff
theorem at_g {ns : List Int} {r : Int} (h0 : 0 ≤ r) (h : r < ns.length) : atI (ns.map fun n => T.fz (.int n)) r = some (.fz (.int (ns.getD r.toNat 0))) := by
  have hl : r.toNat < ns.length := by omega
  rw [atI_nat h0 (by rw [List.length_map]; exact h), List.getElem?_map, List.getElem?_eq_getElem hl, List.getD_eq_getElem?_getD, List.getElem?_eq_getElem hl]
  rfl
theorem eq_nil (ns : List Int) : o2 .eq (.lst (ns.map D.int)) (.lst []) = some (.bl (decide (ns = []))) := by
  have z := shaped_ints (ds := ns.map D.int) (fun d hd => by
    obtain ⟨n, _, rfl⟩ := List.mem_map.mp hd
    exact ⟨n, rfl⟩)
  have c : D.cmp (.lst (ns.map D.int)) = true := by
    unfold D.cmp SeqAt.shaped
    simp only [D.py, PyData.canLay0, PyData.depth, z.1, Bool.true_and, decide_eq_true_eq]
    have := z.2
    omega
  show (if (D.lst (ns.map D.int)).cmp = true ∧ (D.lst []).cmp = true then some (D.bl (PyData.eqv (D.lst (ns.map D.int)).py (D.lst []).py)) else none) = _
  rw [if_pos ⟨c, rfl⟩]
  congr 2
  cases ns with
  | nil => rfl
  | cons n ns => rfl
end DL
namespace DL
open PySem PySem.Spec PyProof.Rows L2

/-! ### texts of numbers and lots -/
theorem okS_app (a b : Str) : PyData.strOk (a ++ b) = (PyData.strOk a && PyData.strOk b) := by
  show (a.cps ++ b.cps).all _ = _
  rw [Array.all_append]
  rfl
theorem okS_text : ∀ (ts : List Str) (k : Nat) (acc : Str), PyData.strOk acc = true → (∀ t ∈ ts, PyData.strOk t = true) → PyData.strOk (textFrom k acc ts) = true
  | [], k, acc, h, _ => h
  | t :: r, k, acc, h, ht => by
    have e : PyData.strOk (acc ++ (if k > 0 then ", " else "" : String) ++ t) = true := by
      rw [okS_app, okS_app, h, ht t (by simp)]
      have : PyData.strOk ((if k > 0 then ", " else "" : String) : Str) = true := by
        split <;> decide +kernel
      rw [this]
      rfl
    exact okS_text r (k + 1) _ e fun u hu => ht u (by simp [hu])
theorem okS_of (s : String) : PyData.strOk (Str.ofString s) = true := by
  rw [Str.ofString_eq_toList]
  unfold PyData.strOk
  rw [Array.all_eq_true_iff_forall_mem]
  intro c hc
  simp only [Array.mem_map, List.mem_toArray, List.mem_map] at hc
  obtain ⟨x, _, rfl⟩ := hc
  have := x.valid
  rw [decide_eq_true_eq]
  rcases this with h | h
  · exact Nat.lt_trans h (by decide)
  · exact h.2
theorem small_int {i : Int} (h0 : 0 ≤ i) (h1 : i ≤ 5040) : (PyData.shown (.int i)).length ≤ 13 ∧ PyData.strOk (PyData.shown (.int i)) = true ∧ i.natAbs.log2 < 1920 := by
  refine ⟨PyData.shown_int_le (by omega), ?_, ?_⟩
  · show PyData.strOk (Str.ofString (toString i)) = true
    exact okS_of _
  · by_cases hz : i.natAbs = 0
    · rw [hz]; decide
    · have : i.natAbs.log2 < 13 := (Nat.log2_lt hz).mpr (by omega)
      omega
theorem okS_join : ∀ (ts : List Str), (∀ t ∈ ts, PyData.strOk t = true) → PyData.strOk (Str.join ", " ts) = true
  | [], _ => by decide +kernel
  | [t], h => h t (by simp)
  | t :: u :: r, h => by
    have ih := okS_join (u :: r) fun x hx => h x (by simp [hx])
    show PyData.strOk (t ++ ", " ++ Str.join ", " (u :: r)) = true
    rw [okS_app, okS_app, h t (by simp), ih]
    decide +kernel
theorem ints_facts : ∀ (ns : List Int), (∀ x ∈ ns, 0 ≤ x ∧ x ≤ 5040) → PyData.leavesShortAll 13 (D.pys (ns.map D.int)) = true ∧ PyData.showableAll (D.pys (ns.map D.int)) = true ∧ PyData.weightAll (D.pys (ns.map D.int)) ≤ 14 * ns.length ∧ PyData.hasDictAll (D.pys (ns.map D.int)) = false ∧ ∀ t ∈ PyData.shownAll (D.pys (ns.map D.int)), PyData.strOk t = true
  | [], _ => ⟨rfl, rfl, by decide, rfl, fun _ h => nomatch h⟩
  | n :: ns, h => by
    obtain ⟨i1, i2, i3, i4, i5⟩ := ints_facts ns fun x hx => h x (by simp [hx])
    obtain ⟨h0, h1⟩ := h n (by simp)
    obtain ⟨s1, s2, s3⟩ := small_int h0 h1
    have w : PyData.weight (.int n) ≤ 13 := by
      show (if n == 0 then 0 else n.natAbs.log2 + 1) ≤ 13
      split
      · omega
      · have : n.natAbs.log2 < 13 := (Nat.log2_lt (by rename_i z; simp at z; omega)).mpr (by omega)
        omega
    refine ⟨?_, ?_, ?_, ?_, ?_⟩
    · simp only [List.map_cons, D.pys, D.py, PyData.leavesShortAll, i1, Bool.and_true, PyData.leavesShort, decide_eq_true_eq]
      exact s1
    · simp only [List.map_cons, D.pys, D.py, PyData.showableAll, i2, Bool.and_true, PyData.showable, decide_eq_true_eq]
      exact s3
    · simp only [List.map_cons, D.pys, D.py, PyData.weightAll, List.length_cons]
      omega
    · simp only [List.map_cons, D.pys, D.py, PyData.hasDictAll, i4, Bool.or_false, PyData.hasDict]
    · intro t ht
      simp only [List.map_cons, D.pys, D.py, PyData.shownAll, List.mem_cons] at ht
      rcases ht with rfl | ht
      · exact s2
      · exact i5 t ht
theorem repr_lot {e : Int} {ns : List Int} (e0 : 0 ≤ e) (e1 : e ≤ 5040) (h : ∀ x ∈ ns, 0 ≤ x ∧ x ≤ 5040) (hl : ns.length ≤ 5040) : ∃ s : Str, reprD (.tup [.int e, .lst (ns.map D.int)]) = some (.str s) ∧ PyData.strOk s = true := by
  obtain ⟨i1, i2, i3, i4, i5⟩ := ints_facts ns h
  obtain ⟨j1, j2, j3, j4, j5⟩ := ints_facts [e] (by simpa using ⟨e0, e1⟩)
  obtain ⟨s1, s2, s3⟩ := small_int e0 e1
  have z := shaped_ints (ds := ns.map D.int) (fun d hd => by
    obtain ⟨n, _, rfl⟩ := List.mem_map.mp hd
    exact ⟨n, rfl⟩)
  have hpy : (D.tup [.int e, .lst (ns.map D.int)]).py = .tuple [.int e, .list (D.pys (ns.map D.int))] := rfl
  have w1 : PyData.weight (.int e) ≤ 13 := by
    have q : PyData.weightAll (D.pys ([e].map D.int)) = PyData.weight (.int e) + 1 + 0 := rfl
    rw [q] at j3
    simp only [List.length_singleton] at j3
    omega
  have g1 : PyData.canLay0 (.tuple [.int e, .list (D.pys (ns.map D.int))]) = true := by
    simp only [PyData.canLay0, PyData.canLayAll0, z.1, Bool.and_true]
  have g2 : PyData.showable (.tuple [.int e, .list (D.pys (ns.map D.int))]) = true := by
    simp only [PyData.showable, PyData.showableAll, i2, Bool.and_true, decide_eq_true_eq]
    exact s3
  have g3 : PyData.depth (.tuple [.int e, .list (D.pys (ns.map D.int))]) ≤ 60 := by
    simp only [PyData.depth, PyData.depthAll]
    have := z.2
    omega
  have g4 : PyData.hasDict (.tuple [.int e, .list (D.pys (ns.map D.int))]) = false := by
    simp only [PyData.hasDict, PyData.hasDictAll, i4, Bool.or_false]
  have g5 : (PyData.shown (.tuple [.int e, .list (D.pys (ns.map D.int))])).length ≤ sizeLine := by
    refine PyData.shown_fits (B := 13) (by decide) (by decide) ?_ ?_
    · simp only [PyData.leavesShort, PyData.leavesShortAll, i1, Bool.and_true, decide_eq_true_eq]
      exact s1
    · simp only [PyData.weight, PyData.weightAll]
      have w2 : (if e == 0 then 0 else e.natAbs.log2 + 1) ≤ 13 := w1
      omega
  refine ⟨PyData.shown (.tuple [.int e, .list (D.pys (ns.map D.int))]), ?_, ?_⟩
  · unfold reprD
    rw [hpy, if_pos ⟨g1, g2, g3, g4, g5⟩]
  · simp only [PyData.shown, PyData.shownAll]
    unfold tupleText
    rw [okS_app, okS_app, okS_join _ (by
      intro t ht
      simp only [List.mem_cons, List.not_mem_nil, or_false] at ht
      rcases ht with rfl | rfl
      · exact s2
      · unfold listText
        rw [okS_app, okS_text _ _ _ (by decide +kernel) i5]
        decide +kernel)]
    have : PyData.strOk ("(" : Str) = true := by decide +kernel
    rw [this]
    have : ∀ b : Bool, PyData.strOk ((if b = true then ",)" else ")" : String) : Str) = true := by decide +kernel
    rw [this]
    rfl
theorem ne_str {s : Str} (h : PyData.strOk s = true) : o2 .ne (.str s) (.str s) = some (.bl false) := by
  have c : D.cmp (.str s) = true := by
    unfold D.cmp SeqAt.shaped
    simp only [D.py, PyData.canLay0, h, Bool.true_and, decide_eq_true_eq, PyData.depth]
    omega
  show (if (D.str s).cmp = true ∧ (D.str s).cmp = true then some (D.bl (!PyData.eqv (.str s) (.str s))) else none) = _
  rw [if_pos ⟨c, c⟩]
  have : PyData.eqv (.str s) (.str s) = true := by
    simp [PyData.eqv]
  rw [this]
  rfl
theorem log_of {i : Int} {m : Nat} (hm : 0 < m) (h : i.natAbs < 2 ^ m) : i.natAbs.log2 < m := by
  by_cases hz : i.natAbs = 0
  · rw [hz]; exact Nat.lt_of_le_of_lt (by decide) hm
  · exact (Nat.log2_lt hz).mpr h
/-- [i] as a text -/
theorem repr_one {i : Int} (h : i.natAbs < 2 ^ 1920) : ∃ s : Str, reprD (.lst [.int i]) = some (.str s) ∧ PyData.strOk s = true := by
  have hl := log_of (by decide) h
  have g1 : PyData.canLay0 (.list [.int i]) = true := rfl
  have g2 : PyData.showable (.list [.int i]) = true := by
    simp only [PyData.showable, PyData.showableAll, Bool.and_true, decide_eq_true_eq]
    exact hl
  have g3 : PyData.depth (.list [.int i]) ≤ 60 := by
    simp only [PyData.depth, PyData.depthAll]
    omega
  have ln := int_text_len_1921 hl
  have e1 : PyData.shown (.list [.int i]) = ("[" : Str) ++ ("" : Str) ++ Str.ofString (toString i) ++ ("]" : Str) := rfl
  have g5 : (PyData.shown (.list [.int i])).length ≤ sizeLine := by
    rw [e1, strLen_append, strLen_append, strLen_append, PySem.sizeLine_eq]
    have a1 : ("[" : Str).length = 1 := by decide +kernel
    have a2 : ("" : Str).length = 0 := by decide +kernel
    have a3 : ("]" : Str).length = 1 := by decide +kernel
    omega
  refine ⟨PyData.shown (.list [.int i]), ?_, ?_⟩
  · unfold reprD
    have hpy : (D.lst [.int i]).py = .list [.int i] := rfl
    rw [hpy, if_pos ⟨g1, g2, g3, rfl, g5⟩]
  · rw [e1, okS_app, okS_app, okS_app, okS_of, okS_of, okS_of, okS_of]
    rfl
end DL
namespace DL
open PySem PySem.Spec PyProof.Rows L2

/-! ### more of lists of ints -/
theorem cmp_ints (ns : List Int) : D.cmp (.lst (ns.map D.int)) = true := by
  have z := shaped_ints (ds := ns.map D.int) (fun d hd => by
    obtain ⟨n, _, rfl⟩ := List.mem_map.mp hd
    exact ⟨n, rfl⟩)
  unfold D.cmp SeqAt.shaped
  simp only [D.py, PyData.canLay0, PyData.depth, z.1, Bool.true_and, decide_eq_true_eq]
  have := z.2
  omega
theorem eqv_ints : ∀ (a b : List Int), PyData.eqvAll (D.pys (a.map D.int)) (D.pys (b.map D.int)) = decide (a = b)
  | [], [] => rfl
  | [], _ :: _ => rfl
  | _ :: _, [] => rfl
  | x :: a, y :: b => by
    show PyData.eqvAll (.int x :: D.pys (a.map D.int)) (.int y :: D.pys (b.map D.int)) = _
    simp only [PyData.eqvAll]
    rw [eqv_ints a b, eqv_int]
    by_cases h : x = y <;> by_cases h2 : a = b <;> simp [h, h2]
theorem eq_ints (a b : List Int) : o2 .eq (.lst (a.map D.int)) (.lst (b.map D.int)) = some (.bl (decide (a = b))) := by
  show (if (D.lst (a.map D.int)).cmp = true ∧ (D.lst (b.map D.int)).cmp = true then some (D.bl (PyData.eqv (D.lst (a.map D.int)).py (D.lst (b.map D.int)).py)) else none) = _
  rw [if_pos ⟨cmp_ints a, cmp_ints b⟩]
  congr 2
  show PyData.eqv (.list (D.pys (a.map D.int))) (.list (D.pys (b.map D.int))) = _
  simp only [PyData.eqv]
  exact eqv_ints a b
theorem ne_ints (a b : List Int) : o2 .ne (.lst (a.map D.int)) (.lst (b.map D.int)) = some (.bl (!decide (a = b))) := by
  show (if (D.lst (a.map D.int)).cmp = true ∧ (D.lst (b.map D.int)).cmp = true then some (D.bl (!PyData.eqv (D.lst (a.map D.int)).py (D.lst (b.map D.int)).py)) else none) = _
  rw [if_pos ⟨cmp_ints a, cmp_ints b⟩]
  congr 3
  show PyData.eqv (.list (D.pys (a.map D.int))) (.list (D.pys (b.map D.int))) = _
  simp only [PyData.eqv]
  exact eqv_ints a b
/-- 0, s, 2 s, .. -/
def rgm (s : Int) (q : Nat) : List Int := (List.range q).map fun (i : Nat) => (i : Int) * s
theorem rngL_rgm (s : Int) : ∀ (q : Nat) (a : Int), rngL a s q = (List.range q).map fun (i : Nat) => D.int (a + (i : Int) * s)
  | 0, _ => rfl
  | q + 1, a => by
    rw [rngL, rngL_rgm s q (a + s), List.range_succ_eq_map, List.map_cons, List.map_map]
    congr 1
    · simp
    · refine List.map_congr_left fun i _ => ?_
      simp only [Function.comp]
      congr 1
      rw [show ((Nat.succ i : Nat) : Int) = (i : Int) + 1 by omega, Int.add_mul]
      omega
theorem r3 {e s : Int} {q : Nat} (s1 : 1 ≤ s) (s2 : s ≤ 1000000) (e1 : 0 ≤ e) (e2 : e ≤ 1000000) (h : e = s * q) : rng3D (.int 0) (.int e) (.int s) = some ((rgm s q).map D.int) := by
  have sz : Builtin.Range.rangeSize 0 e s = q := by
    unfold Builtin.Range.rangeSize
    rw [if_pos (by omega)]
    by_cases c : 0 < e
    · rw [if_pos (by omega)]
      have : e - 0 - 1 = (s - 1) + s * ((q : Int) - 1) := by
        rw [Int.mul_sub, ← h]
        omega
      rw [this, Int.add_mul_ediv_left _ _ (by omega), Int.ediv_eq_zero_of_lt (by omega) (by omega)]
      omega
    · rw [if_neg (by omega)]
      have e0 : s * (q : Int) = 0 := by omega
      rcases Int.mul_eq_zero.mp e0 with z | z <;> omega
  have q0 : (q : Int) ≤ e ∨ e = 0 := by
    rw [h]
    have : 1 * (q : Int) ≤ s * q := Int.mul_le_mul_of_nonneg_right s1 (by omega)
    omega
  have q1 : (q : Int) ≤ 1000000 := by
    rcases q0 with z | z
    · omega
    · rw [z] at h
      rcases Int.mul_eq_zero.mp h.symm with z | z <;> omega
  have sm : Builtin.Range.small 0 e s = true := by
    unfold Builtin.Range.small
    rw [sz]
    have c0 : s > 0 := by omega
    simp only [Builtin.Range.rangeFitsLong, Bool.and_eq_true, Bool.or_eq_true, decide_eq_true_eq, beq_iff_eq, c0, if_true]
    omega
  show (if s ≠ 0 ∧ s.natAbs < 1073741824 ∧ Builtin.Range.small 0 e s = true ∧ 0 ≤ Builtin.Range.rangeSize 0 e s then some (rngL 0 s (Builtin.Range.rangeSize 0 e s).toNat) else none) = _
  rw [if_pos ⟨by omega, by omega, sm, by rw [sz]; omega⟩, sz, rngL_rgm]
  unfold rgm
  rw [List.map_map]
  congr 1
  refine List.map_congr_left fun i _ => ?_
  simp only [Function.comp, Int.zero_add]
theorem mem_rgm {s x : Int} {q : Nat} : x ∈ rgm s q ↔ ∃ i : Nat, i < q ∧ x = (i : Int) * s := by
  unfold rgm
  rw [List.mem_map]
  constructor
  · rintro ⟨i, hi, e⟩
    exact ⟨i, List.mem_range.mp hi, e.symm⟩
  · rintro ⟨i, hi, e⟩
    exact ⟨i, List.mem_range.mpr hi, e.symm⟩
/-- two clauses: what the second one adds in each turn of the first -/
theorem lc2_two {st st1 : T → Sl → Option Sl} {ft ft1 : Sl → Option (Rs Bool)} {fi1 : Sl → Option (Rs (List D))} {fe : Sl → Option (Rs T)} {vs vs1 : List Nat} (J : Sl → Prop) (f : Int → List T) : ∀ (xs : List Int) (ρ : Sl) (acc : List T), J ρ → acc.length + (xs.flatMap f).length ≤ 16777216 →
    (∀ x ∈ xs, ∀ ρ acc, J ρ → acc.length + (f x).length ≤ 16777216 → ∃ ρ1 ρ2 ds1 ρ3 ρ4, st (.fz (.int x)) ρ = some ρ1 ∧ ft ρ1 = some (.ok true ρ2) ∧ fi1 ρ2 = some (.ok ds1 ρ3) ∧ lcF st1 ft1 fe vs1 ds1 (wipeT ρ3 vs1) acc = some (.ok (acc ++ f x) ρ4) ∧ J (wipeT ρ4 vs)) →
    ∃ ρ', lc2F st ft fi1 st1 ft1 fe vs vs1 (xs.map D.int) ρ acc = some (.ok (acc ++ xs.flatMap f) (wipeT ρ' vs)) ∧ J ρ'
  | [], ρ, acc, j, _, _ => ⟨ρ, by simp [lc2F], j⟩
  | x :: xs, ρ, acc, j, hl, h => by
    rw [List.flatMap_cons, List.length_append] at hl
    obtain ⟨ρ1, ρ2, ds1, ρ3, ρ4, h1, h2, h3, h4, h5⟩ := h x (by simp) ρ acc j (by omega)
    obtain ⟨ρ', e, j'⟩ := lc2_two J f xs (wipeT ρ4 vs) (acc ++ f x) h5 (by rw [List.length_append]; omega) fun y hy => h y (by simp [hy])
    refine ⟨ρ', ?_, j'⟩
    rw [List.map_cons, List.flatMap_cons, ← List.append_assoc, ← e]
    conv => lhs; unfold lc2F
    simp only [h1, h2, h3, h4]
/-- a comprehension that changes nothing, on from what there is -/
theorem lc_on {α : Type} {st : T → Sl → Option Sl} {ft : Sl → Option (Rs Bool)} {fe : Sl → Option (Rs T)} {vs : List Nat} {ρ0 : Sl} {em : α → D} (f : α → T) (hw : wipeT ρ0 vs = ρ0) (xs : List α) (acc : List T) (hl : acc.length + xs.length ≤ 16777216)
    (h : ∀ x ∈ xs, ∃ ρ1, st (.fz (em x)) ρ0 = some ρ1 ∧ wipeT ρ1 vs = ρ0 ∧ ft ρ1 = some (.ok true ρ1) ∧ fe ρ1 = some (.ok (f x) ρ1)) :
    lcF st ft fe vs (xs.map em) ρ0 acc = some (.ok (acc ++ xs.map f) ρ0) := by
  have z := lc_pure (st := st) (ft := ft) (fe := fe) (em := em) (fun _ => true) f hw xs acc (by rw [PySem.sizeLine_eq]; exact hl) fun x hx => let ⟨ρ1, h1, h2, h3, h4⟩ := h x hx; ⟨ρ1, ρ1, h1, h3, h2, fun _ => ⟨ρ1, h4, h2⟩⟩
  rw [z, filtT]
theorem eq_str {s : Str} (h : PyData.strOk s = true) : o2 .eq (.str s) (.str s) = some (.bl true) := by
  have z := ne_str h
  have c : (D.str s).cmp = true := by
    apply Classical.byContradiction
    intro n
    have e : o2 .ne (.str s) (.str s) = if (D.str s).cmp = true ∧ (D.str s).cmp = true then some (D.bl (!PyData.eqv (D.str s).py (D.str s).py)) else none := rfl
    rw [e, if_neg fun h => n h.1] at z
    cases z
  show (if (D.str s).cmp = true ∧ (D.str s).cmp = true then some (D.bl (PyData.eqv (D.str s).py (D.str s).py)) else none) = _
  rw [if_pos ⟨c, c⟩]
  congr 2
  show PyData.eqv (.str s) (.str s) = true
  simp only [PyData.eqv, beq_self_eq_true]
theorem bf_maxF (n : Int) (ns : List Int) : bfT .max [.fz (.lst (D.int n :: ns.map D.int))] = some (.fz (.int (maxI n ns))) := by
  have z : (lstDs (.fz (.lst (D.int n :: ns.map D.int)))).bind intsD = some (n :: ns) := intsD_i (n :: ns)
  show (match (lstDs (.fz (.lst (D.int n :: ns.map D.int)))).bind intsD with
    | some (n :: ns) => some (T.fz (.int (maxI n ns)))
    | _ => none) = _
  rw [z]
theorem cut_map {α β : Type} (f : α → β) (xs : List α) (lo hi : Option Int) : cutG (xs.map f) lo hi = (cutG xs lo hi).map f := by
  unfold cutG
  rw [List.length_map, List.map_take, List.map_drop]
theorem cut_mem {α : Type} {xs : List α} {lo hi : Option Int} {x : α} (h : x ∈ cutG xs lo hi) : x ∈ xs := List.mem_of_mem_drop (List.mem_of_mem_take h)
theorem sl_i (ns : List Int) (lo hi : Option Int) : sliceT (.fz (.lst (ns.map D.int))) lo hi = some (.lst (iT (cutG ns lo hi))) := by
  rw [sl_f, List.map_map, cut_map]
  rfl
theorem sl_il (ns : List Int) (lo hi : Option Int) : sliceT (.lst (iT ns)) lo hi = some (.lst (iT (cutG ns lo hi))) := by
  rw [sl_l]
  unfold iT
  rw [cut_map]
theorem cut_len {α : Type} (xs : List α) (lo hi : Option Int) : (cutG xs lo hi).length ≤ xs.length := by
  unfold cutG
  rw [List.length_take, List.length_drop]
  omega
theorem cut_all {α : Type} {xs : List α} {s : Nat} {m : Int} (hs : s ≤ xs.length) (hm : (xs.length : Int) ≤ s + m) : cutG xs (some (s : Int)) (some ((s : Int) + m)) = xs.drop s := by
  unfold cutG
  have e : (s : Int) + m = ((s + m).toNat : Int) := by omega
  rw [HT.sIx_nat, e, HT.sIx_nat]
  rw [Nat.min_eq_left hs, List.take_of_length_le]
  rw [List.length_drop]
  omega
theorem cut_to {α : Type} {xs : List α} {s : Nat} (hs : s ≤ xs.length) : cutG xs none (some (s : Int)) = xs.take s := by
  unfold cutG
  rw [HT.sIx_none, HT.sIx_nat, List.drop_zero, Nat.sub_zero, Nat.min_eq_left hs]
theorem cut_top {α : Type} {xs : List α} {m : Nat} (hs : xs.length ≤ m) : cutG xs none (some (m : Int)) = xs := by
  unfold cutG
  rw [HT.sIx_none, HT.sIx_nat, List.drop_zero, Nat.sub_zero, Nat.min_eq_right hs, List.take_length]
theorem cut_has {α : Type} {xs : List α} {s : Nat} {m : Int} (hs : s < xs.length) (hm : 0 < m) : cutG xs (some (s : Int)) (some ((s : Int) + m)) ≠ [] := by
  unfold cutG
  have e : (s : Int) + m = ((s + m).toNat : Int) := by omega
  rw [HT.sIx_nat, e, HT.sIx_nat]
  intro z
  have := congrArg List.length z
  rw [List.length_take, List.length_drop, List.length_nil] at this
  omega
theorem rg_cons (a : Int) (n : Nat) : rg a (n + 1) = a :: rg (a + 1) n := by
  unfold rg
  rw [List.range_succ_eq_map, List.map_cons, List.map_map]
  congr 1
  · simp
  · refine List.map_congr_left fun j _ => ?_
    simp only [Function.comp]
    omega
theorem rg_app (m : Nat) : ∀ (n : Nat) (a : Int), rg a (n + m) = rg a n ++ rg (a + n) m
  | 0, a => by simp [rg]
  | n + 1, a => by
    rw [show n + 1 + m = (n + m) + 1 by omega, rg_cons, rg_app m n, rg_cons, List.cons_append]
    congr 3
    omega
end DL
namespace Lw
open PySem PySem.Spec PyProof.Rows L2 DL
abbrev bd : List Stmt := PySem.Challenge.pw_marketdays_k06_widest_waits.main.body
abbrev R : PySem.W.OpenRow := PySem.W.OpenLaw.row PySem.Challenge.rw_marketdays_k06_widest_waits
def names0 : List PySem.Str := ["MarketError", "InvalidDay", "InvalidLot", "prime_parts", "goes_round", "told_lot", "lot", "check_lots", "check_days", "next_day", "widest", "_law_purse", "_law_coin", "_law_mk_is_integer", "_law_mk_base", "_law_mk_part", "_law_mk_leaves", "_law_mk_spread", "_law_mk_marks", "_law_mk_primes", "_law_mk_longest", "_law_right"]
def names : List PySem.Str := names0
def dn0 : Dn := [("prime_parts", 5), ("goes_round", 6), ("told_lot", 7), ("lot", 8), ("check_lots", 9), ("check_days", 10), ("next_day", 11), ("widest", 12), ("_law_purse", 14), ("_law_coin", 15), ("_law_mk_is_integer", 16), ("_law_mk_base", 17), ("_law_mk_part", 18), ("_law_mk_leaves", 19), ("_law_mk_spread", 20), ("_law_mk_marks", 21), ("_law_mk_primes", 22), ("_law_mk_longest", 23), ("_law_right", 24), ("law", 25)]
def dn : Dn := dn0
def con : List (Str × D) := []
def fa : List He.Fa := hFa dn con []
def fn : List He.FnD := hFn bd dn
abbrev hk : PySem.W.Hook := He.hookE 4 fa fn
def ob (s : PySem.W.SharedT) : He.Al := He.obsG 4 fa fn (HandSHeadRun.getT s)
theorem ob_eq (s : PySem.W.SharedT) : ob s = hk.obs s.abs := He.obsG_eq (HandSHeadRun.getT_eq s)
theorem run (w : World) : HandSHeadRun.RunEq R (PySem.W.view R.prog [25]) hk ob 3000 names w := by
  intro os
  kernel_rfl
noncomputable def tb0 : List Cal := []
def B_prime_parts_1 : Ss := (.cons (.aug .fdiv 0 (.p (.sl 3))) .nil)
def BW_prime_parts_1 : B := (.p (.op .eq (.op .mod (.sl 0) (.sl 3)) (.lit (.int 0))))
def B_prime_parts_2 : Ss := (.cons (.ife (.p (.op .eq (.op .mod (.sl 0) (.sl 3)) (.lit (.int 0)))) (.cons (.ex (.mm1 .append (.s 2) (.sl 3))) (.cons (.whl BW_prime_parts_1 B_prime_parts_1) .nil)) .nil) .nil)
def d_prime_parts : Df := ⟨"prime_parts", topOf bd 5, ["every", "most", "found", "part"], ["every", "most"], [],
  (.cons (.asg 2 (.lst .nil)) (.cons (.for_ (.n 3) (.rng2 (.p (.lit (.int 2))) (.p (.op .add (.sl 1) (.lit (.int 1))))) B_prime_parts_2) (.cons (.ret (.mv 2)) .nil)))⟩
noncomputable def tb1 : List Cal := tb0 ++ [d_prime_parts.cal tb0]
noncomputable def F_prime_parts : List T → Option Out := d_prime_parts.F tb0
theorem F_prime_parts_eq (ts : List T) : F_prime_parts ts = denB (evSs tb0 d_prime_parts.b) 2 4 [] ts := rfl
def CT_goes_round_1 : Bs := (.one (.p (.op .lt (.sl 4) (.sl 0))))
def CE_goes_round_1 : E := (.p (.sl 4))
def CT_goes_round_2 : Bs := .nil
def CI_goes_round_2 : I := (.lst (.fzs 3))
def CU_goes_round_2 : Bs := .nil
def CE_goes_round_2 : E := (.p (.op .add (.sl 5) (.sl 4)))
def d_goes_round : Df := ⟨"goes_round", topOf bd 6, ["short", "every", "rests", "kept", "rest", "start"], ["short", "every", "rests"], [],
  (.cons (.asgC 3 (.lc [("rest", 4)] (.n 4) (.lst (.fzs 2)) CT_goes_round_1 CE_goes_round_1)) (.cons (.ret (.cmp .eq (.mv 2) (.lc2 [("start", 5), ("rest", 4)] [4] (.n 5) (.rng3 (.p (.lit (.int 0))) (.p (.sl 1)) (.p (.sl 0))) CT_goes_round_2 (.n 4) CI_goes_round_2 CU_goes_round_2 CE_goes_round_2))) .nil))⟩
noncomputable def tb2 : List Cal := tb1 ++ [d_goes_round.cal tb1]
noncomputable def F_goes_round : List T → Option Out := d_goes_round.F tb1
theorem F_goes_round_eq (ts : List T) : F_goes_round ts = denB (evSs tb1 d_goes_round.b) 3 6 [] ts := rfl
def CT_told_lot_1 : Bs := (.one (.p (.op .lt (.sl 3) (.sl 0))))
def CE_told_lot_1 : E := (.p (.sl 3))
def B_told_lot_1 : Ss := (.cons (.aug .fdiv 0 (.p (.sl 2))) (.cons (.asgLc 1 [("rest", 3)] (.n 3) (.lst (.mv 1)) CT_told_lot_1 CE_told_lot_1) .nil))
def BW_told_lot_1 : B := (.and (.p (.op .eq (.op .mod (.sl 0) (.sl 2)) (.lit (.int 0)))) (.val (.call 1 (.bf (.op .fdiv (.sl 0) (.sl 2)) (.bf (.sl 0) (.c (.fzs 1) (.q [])))))))
def B_told_lot_2 : Ss := (.cons (.whl BW_told_lot_1 B_told_lot_1) .nil)
def d_told_lot : Df := ⟨"told_lot", topOf bd 7, ["every", "rests", "part", "rest"], ["every", "rests"], [],
  (.cons (.ife (.cmp .eq (.fzs 1) (.lst .nil)) (.cons (.ret (.tup (.cons (.p (.lit (.int 1))) (.cons (.lst .nil) .nil)))) .nil) .nil) (.cons (.for_ (.n 2) (.lst (.call 0 (.q [.b (.sl 0), .b (.b1 .len (.sl 1))]))) B_told_lot_2) (.cons (.ret (.tup (.cons (.p (.sl 0)) (.cons (.mv 1) .nil)))) .nil)))⟩
noncomputable def tb3 : List Cal := tb2 ++ [d_told_lot.cal tb2]
noncomputable def F_told_lot : List T → Option Out := d_told_lot.F tb2
theorem F_told_lot_eq (ts : List T) : F_told_lot ts = denB (evSs tb2 d_told_lot.b) 2 4 [] ts := rfl
theorem at_2_0 : tb2[0]? = some ⟨"prime_parts", 2, none, [], [], F_prime_parts⟩ := rfl
theorem at_2_1 : tb2[1]? = some ⟨"goes_round", 3, none, [], [], F_goes_round⟩ := rfl
def CT_lot_1 : Bs := .nil
def CE_lot_1 : E := (.p (.op .mod (.sl 2) (.sl 0)))
def d_lot : Df := ⟨"lot", topOf bd 8, ["every", "rests", "rest"], ["every", "rests"], [],
  (.cons (.ife (.p (.op .lt (.sl 0) (.lit (.int 1)))) (.cons .nev .nil) .nil) (.cons (.ret (.call 2 (.bf (.sl 0) (.c (.sset (.lc [("rest", 2)] (.n 2) (.lst (.mv 1)) CT_lot_1 CE_lot_1)) (.q []))))) .nil))⟩
noncomputable def tb4 : List Cal := tb3 ++ [d_lot.cal tb3]
noncomputable def F_lot : List T → Option Out := d_lot.F tb3
theorem F_lot_eq (ts : List T) : F_lot ts = denB (evSs tb3 d_lot.b) 2 3 [] ts := rfl
theorem at_3_2 : tb3[2]? = some ⟨"told_lot", 2, none, [], [], F_told_lot⟩ := rfl
def CT_check_lots_1 : Bs := .nil
def CE_check_lots_1 : E := (.p (.op .lt (.sl 4) (.sl 5)))
def CT_check_lots_2 : Bs := .nil
def CE_check_lots_2 : E := (.p (.ch .le .lt (.lit (.int 0)) (.sl 6) (.sl 1)))
def B_check_lots_1 : Ss := (.cons (.asg 3 (.bf .all (.cons (.lc [("low", 4), ("high", 5)] (.t (.cons (.n 4) (.cons (.n 5) .nil))) (.zip (.fzs 2) (.slice (.fzs 2) (.some (.p (.lit (.int 1)))) .none)) CT_check_lots_1 CE_check_lots_1) .nil))) (.cons (.ife (.or (.p (.op .lt (.sl 1) (.lit (.int 1)))) (.or (.p (.not (.sl 3))) (.not (.val (.bf .all (.cons (.lc [("rest", 6)] (.n 6) (.lst (.fzs 2)) CT_check_lots_2 CE_check_lots_2) .nil)))))) (.cons .nev .nil) .nil) .nil))
def d_check_lots : Df := ⟨"check_lots", topOf bd 9, ["asked", "every", "rests", "ascending", "low", "high", "rest"], ["asked"], [],
  (.cons (.for_ (.t (.cons (.n 1) (.cons (.n 2) .nil))) (.tup (.mv 0)) B_check_lots_1) .nil)⟩
noncomputable def tb5 : List Cal := tb4 ++ [d_check_lots.calS tb4 1 0]
noncomputable def F_check_lots : List T → Option Out := d_check_lots.F tb4
theorem F_check_lots_eq (ts : List T) : F_check_lots ts = denB (evSs tb4 d_check_lots.b) 1 7 [] ts := rfl
def B_check_days_1 : Ss := (.cons (.ife (.p (.op .lt (.sl 1) (.lit (.int 0)))) (.cons .nev .nil) .nil) .nil)
def d_check_days : Df := ⟨"check_days", topOf bd 10, ["asked", "day"], ["asked"], [],
  (.cons (.for_ (.n 1) (.tup (.p (.sl 0))) B_check_days_1) .nil)⟩
noncomputable def tb6 : List Cal := tb5 ++ [d_check_days.calS tb5 1 0]
noncomputable def F_check_days : List T → Option Out := d_check_days.F tb5
theorem F_check_days_eq (ts : List T) : F_check_days ts = denB (evSs tb5 d_check_days.b) 1 2 [] ts := rfl
def CT_next_day_1 : Bs := .nil
def CE_next_day_1 : E := (.p (.op .mod (.op .sub (.sl 4) (.sl 1)) (.sl 2)))
def d_next_day : Df := ⟨"next_day", topOf bd 11, ["one", "day", "every", "rests", "rest"], ["one", "day"], [],
  (.cons (.ex (.callS 4 (.c (.fzs 0) (.q [])))) (.cons (.ex (.callS 5 (.q [.b (.sl 1)]))) (.cons (.tgt (.t (.cons (.n 2) (.cons (.n 3) .nil))) (.mv 0)) (.cons (.ret (.ife (.p (.op .gt (.b1 .len (.sl 3)) (.lit (.int 0)))) (.add (.p (.sl 1)) (.bf .min (.cons (.lc [("rest", 4)] (.n 4) (.lst (.mv 3)) CT_next_day_1 CE_next_day_1) .nil))) (.p (.lit .non)))) .nil))))⟩
noncomputable def tb7 : List Cal := tb6 ++ [d_next_day.cal tb6]
noncomputable def F_next_day : List T → Option Out := d_next_day.F tb6
theorem F_next_day_eq (ts : List T) : F_next_day ts = denB (evSs tb6 d_next_day.b) 2 5 [] ts := rfl
theorem at_6_4 : tb6[4]? = some ⟨"check_lots", 1, (some 0), [], [], F_check_lots⟩ := rfl
theorem at_6_5 : tb6[5]? = some ⟨"check_days", 1, (some 0), [], [], F_check_days⟩ := rfl
def CT_widest_1 : Bs := .nil
def CE_widest_1 : E := (.p (.op .sub (.sl 5) (.sl 4)))
def d_widest : Df := ⟨"widest", topOf bd 12, ["one", "later", "every", "rests", "rest", "after"], ["one"], [],
  (.cons (.ex (.callS 4 (.c (.fzs 0) (.q [])))) (.cons (.tgt (.t (.cons (.n 2) (.cons (.n 3) .nil))) (.mv 0)) (.cons (.ife (.p (.op .eq (.b1 .len (.sl 3)) (.lit (.int 0)))) (.cons (.ret (.p (.lit .non))) .nil) .nil) (.cons (.asg 1 (.lstS (.star (.slice (.fzs 3) (.some (.p (.lit (.int 1)))) .none) (.cons (.p (.op .add (.ix (.sl 3) (.lit (.int 0))) (.sl 2))) .nil)))) (.cons (.ret (.bin .sub (.bf .max (.cons (.lc [("rest", 4), ("after", 5)] (.t (.cons (.n 4) (.cons (.n 5) .nil))) (.zip (.mv 3) (.mv 1)) CT_widest_1 CE_widest_1) .nil)) (.p (.lit (.int 1))))) .nil)))))⟩
noncomputable def tb8 : List Cal := tb7 ++ [d_widest.cal tb7]
noncomputable def tb9 : List Cal := tb8 ++ [d_widest.calK tb7 0 ["one"] [0]]
noncomputable def F_widest : List T → Option Out := d_widest.F tb7
theorem F_widest_eq (ts : List T) : F_widest ts = denB (evSs tb7 d_widest.b) 1 6 [] ts := rfl
theorem at_7_4 : tb7[4]? = some ⟨"check_lots", 1, (some 0), [], [], F_check_lots⟩ := rfl
def d_law_purse : Df := ⟨"_law_purse", topOf bd 14, ["script", "place", "cell"], ["script", "place"], [],
  (.cons (.asg 2 (.p (.ife (.op .lt (.sl 1) (.b1 .len (.sl 0))) (.ix (.sl 0) (.sl 1)) (.lit (.int 0))))) (.cons (.ret (.lst (.cons (.p (.b2 .max (.lit (.int 0)) (.op .sub (.b1 .abs (.sl 2)) (.op .pow (.lit (.int 10)) (.lit (.int 18)))))) (.cons (.p (.op .mod (.b1 .int (.op .add (.op .add (.op .mul (.sl 2) (.lit (.int 30011))) (.op .mul (.sl 1) (.lit (.int 7368787)))) (.lit (.int 104729)))) (.op .add (.op .pow (.lit (.int 10)) (.lit (.int 24))) (.lit (.int 7))))) (.cons (.p (.lit (.int 0))) .nil))))) .nil))⟩
noncomputable def tb10 : List Cal := tb9 ++ [d_law_purse.cal tb9]
noncomputable def F_law_purse : List T → Option Out := d_law_purse.F tb9
theorem F_law_purse_eq (ts : List T) : F_law_purse ts = denB (evSs tb9 d_law_purse.b) 2 3 [] ts := rfl
def d_law_coin : Df := ⟨"_law_coin", topOf bd 15, ["purse", "many", "stirred", "drawn"], ["purse", "many"], [0],
  (.cons (.ife (.p (.op .gt (.ix (.sl 0) (.lit (.int 0))) (.lit (.int 0)))) (.cons (.asg 3 (.p (.op .mod (.b1 .int (.ix (.sl 0) (.lit (.int 0)))) (.sl 1)))) (.cons (.set (.s 0) (.lit (.int 0)) (.p (.op .fdiv (.ix (.sl 0) (.lit (.int 0))) (.sl 1)))) (.cons (.ret (.p (.sl 3))) .nil))) .nil) (.cons (.set (.s 0) (.lit (.int 2)) (.p (.op .add (.ix (.sl 0) (.lit (.int 2))) (.lit (.int 1))))) (.cons (.asg 2 (.p (.op .mod (.op .pow (.b1 .int (.op .add (.ix (.sl 0) (.lit (.int 1))) (.op .mul (.lit (.int 2038074743)) (.ix (.sl 0) (.lit (.int 2)))))) (.lit (.int 3))) (.op .add (.op .pow (.lit (.int 10)) (.lit (.int 25))) (.lit (.int 13)))))) (.cons (.asg 2 (.p (.op .mod (.op .pow (.b1 .int (.op .add (.sl 2) (.op .mul (.lit (.int 982451653)) (.ix (.sl 0) (.lit (.int 2)))))) (.lit (.int 2))) (.op .add (.op .pow (.lit (.int 10)) (.lit (.int 24))) (.lit (.int 7)))))) (.cons (.ret (.p (.op .mod (.b1 .int (.op .fdiv (.sl 2) (.lit (.int 1024)))) (.sl 1)))) .nil)))))⟩
noncomputable def tb11 : List Cal := tb10 ++ [d_law_coin.cal tb10]
noncomputable def F_law_coin : List T → Option Out := d_law_coin.F tb10
theorem F_law_coin_eq (ts : List T) : F_law_coin ts = denB (evSs tb10 d_law_coin.b) 2 4 [0] ts := rfl
def d_law_mk_is_integer : Df := ⟨"_law_mk_is_integer", topOf bd 16, ["thing"], ["thing"], [],
  (.cons (.ret (.p (.and (.isi (.sl 0) .int) (.not (.isi (.sl 0) .bool))))) .nil)⟩
noncomputable def tb12 : List Cal := tb11 ++ [d_law_mk_is_integer.cal tb11]
noncomputable def F_law_mk_is_integer : List T → Option Out := d_law_mk_is_integer.F tb11
theorem F_law_mk_is_integer_eq (ts : List T) : F_law_mk_is_integer ts = denB (evSs tb11 d_law_mk_is_integer.b) 1 1 [] ts := rfl
def d_law_mk_base : Df := ⟨"_law_mk_base", topOf bd 17, ["purse", "menu", "way"], ["purse"], [0],
  (.cons (.asg 1 (.lst (.cons (.p (.lit (.int 12))) (.cons (.p (.lit (.int 30))) (.cons (.p (.lit (.int 60))) (.cons (.p (.lit (.int 72))) (.cons (.p (.lit (.int 210))) (.cons (.p (.lit (.int 420))) (.cons (.p (.lit (.int 840))) (.cons (.p (.lit (.int 2520))) (.cons (.p (.lit (.int 5040))) (.cons (.p (.lit (.int 4620))) (.cons (.p (.lit (.int 4199))) (.cons (.p (.lit (.int 4970))) (.cons (.p (.lit (.int 5039))) (.cons (.p (.lit (.int 4900))) (.cons (.p (.lit (.int 3125))) (.cons (.p (.lit (.int 4489))) (.cons (.p (.lit (.int 4802))) .nil))))))))))))))))))) (.cons (.asg 2 (.call 10 (.q [.io 0, .b (.lit (.int 4))]))) (.cons (.ife (.p (.op .lt (.sl 2) (.lit (.int 2)))) (.cons (.ret (.add (.p (.lit (.int 1))) (.call 10 (.io 0 (.c (.ix (.lst (.cons (.p (.lit (.int 40))) (.cons (.p (.lit (.int 5040))) .nil))) (.p (.sl 2))) (.q [])))))) .nil) .nil) (.cons (.ret (.ix (.mv 1) (.call 10 (.io 0 (.c (.ix (.lst (.cons (.p (.lit (.int 7))) (.cons (.p (.lit (.int 17))) .nil))) (.p (.op .sub (.sl 2) (.lit (.int 2))))) (.q [])))))) .nil))))⟩
noncomputable def tb13 : List Cal := tb12 ++ [d_law_mk_base.cal tb12]
noncomputable def F_law_mk_base : List T → Option Out := d_law_mk_base.F tb12
theorem F_law_mk_base_eq (ts : List T) : F_law_mk_base ts = denB (evSs tb12 d_law_mk_base.b) 1 3 [0] ts := rfl
theorem at_12_10 : tb12[10]? = some ⟨"_law_coin", 2, none, [], [], F_law_coin⟩ := rfl
def B_law_mk_primes_1 : Ss := (.cons (.ife (.p (.op .eq (.op .mod (.b1 .int (.sl 0)) (.sl 2)) (.lit (.int 0)))) (.cons (.asg 0 (.p (.op .fdiv (.sl 0) (.sl 2)))) .nil) .nil) .nil)
def B_law_mk_primes_2 : Ss := (.cons (.ife (.p (.op .eq (.op .mod (.b1 .int (.sl 0)) (.sl 2)) (.lit (.int 0)))) (.cons (.ex (.mm1 .append (.s 1) (.sl 2))) (.cons (.for_ (.n 3) (.rng1 (.p (.lit (.int 13)))) B_law_mk_primes_1) .nil)) .nil) .nil)
def d_law_mk_primes : Df := ⟨"_law_mk_primes", topOf bd 22, ["base", "found", "part", "turn"], ["base"], [],
  (.cons (.asg 1 (.lst .nil)) (.cons (.for_ (.n 2) (.rng2 (.p (.lit (.int 2))) (.p (.lit (.int 72)))) B_law_mk_primes_2) (.cons (.ret (.ife (.p (.op .gt (.sl 0) (.lit (.int 1)))) (.add (.mv 1) (.lst (.cons (.p (.sl 0)) .nil))) (.mv 1))) .nil)))⟩
noncomputable def tb14 : List Cal := tb13 ++ [d_law_mk_primes.cal tb13]
noncomputable def F_law_mk_primes : List T → Option Out := d_law_mk_primes.F tb13
theorem F_law_mk_primes_eq (ts : List T) : F_law_mk_primes ts = denB (evSs tb13 d_law_mk_primes.b) 1 4 [] ts := rfl
def B_law_mk_part_1 : Ss := (.cons (.ife (.and (.p (.op .eq (.op .mod (.b1 .int (.sl 2)) (.sl 3)) (.lit (.int 0)))) (.cmp .eq (.call 10 (.q [.io 0, .b (.lit (.int 2))])) (.p (.lit (.int 0))))) (.cons (.asg 2 (.p (.op .fdiv (.sl 2) (.sl 3)))) .nil) .nil) .nil)
def B_law_mk_part_2 : Ss := (.cons (.for_ (.n 4) (.rng1 (.p (.lit (.int 12)))) B_law_mk_part_1) .nil)
def d_law_mk_part : Df := ⟨"_law_mk_part", topOf bd 18, ["purse", "base", "found", "prime", "turn"], ["purse", "base"], [0],
  (.cons (.asg 2 (.p (.sl 1))) (.cons (.for_ (.n 3) (.lst (.call 13 (.q [.b (.sl 1)]))) B_law_mk_part_2) (.cons (.ret (.p (.sl 2))) .nil)))⟩
noncomputable def tb15 : List Cal := tb14 ++ [d_law_mk_part.cal tb14]
noncomputable def F_law_mk_part : List T → Option Out := d_law_mk_part.F tb14
theorem F_law_mk_part_eq (ts : List T) : F_law_mk_part ts = denB (evSs tb14 d_law_mk_part.b) 2 5 [0] ts := rfl
theorem at_14_10 : tb14[10]? = some ⟨"_law_coin", 2, none, [], [], F_law_coin⟩ := rfl
theorem at_14_13 : tb14[13]? = some ⟨"_law_mk_primes", 1, none, [], [], F_law_mk_primes⟩ := rfl
def CT_law_mk_leaves_1 : Bs := .nil
def CE_law_mk_leaves_1 : E := (.call 10 (.q [.io 0, .b (.lit (.int 2))]))
def CT_law_mk_leaves_2 : Bs := .nil
def CE_law_mk_leaves_2 : E := (.call 10 (.q [.io 0, .b (.sl 1)]))
def CT_law_mk_leaves_3 : Bs := (.one (.p (.op .notin (.sl 8) (.sl 2))))
def CE_law_mk_leaves_3 : E := (.p (.sl 8))
def CT_law_mk_leaves_4 : Bs := (.one (.p (.op .eq (.ix (.sl 4) (.op .mod (.op .mod (.b1 .int (.sl 8)) (.sl 5)) (.lit (.int 13)))) (.lit (.int 1)))))
def CE_law_mk_leaves_4 : E := (.p (.sl 8))
def CT_law_mk_leaves_5 : Bs := (.one (.p (.op .ne (.sl 8) (.ix (.sl 2) (.lit (.int 0))))))
def CE_law_mk_leaves_5 : E := (.p (.sl 8))
def CT_law_mk_leaves_6 : Bs := (.one (.p (.op .eq (.ix (.sl 4) (.op .mod (.b1 .int (.sl 8)) (.lit (.int 13)))) (.lit (.int 1)))))
def CE_law_mk_leaves_6 : E := (.p (.sl 8))
def d_law_mk_leaves : Df := ⟨"_law_mk_leaves", topOf bd 19, ["purse", "base", "few", "way", "mask", "step", "some", "turn", "leaf"], ["purse", "base"], [0],
  (.cons (.tgt (.t (.cons (.n 3) (.cons (.n 4) .nil))) (.tup (.cons (.call 10 (.q [.io 0, .b (.lit (.int 6))])) (.cons (.lc [("turn", 7)] (.n 7) (.rng1 (.p (.lit (.int 13)))) CT_law_mk_leaves_1 CE_law_mk_leaves_1) .nil)))) (.cons (.asg 2 (.sset (.lc [("turn", 7)] (.n 7) (.rng1 (.call 10 (.q [.io 0, .b (.lit (.int 5))]))) CT_law_mk_leaves_2 CE_law_mk_leaves_2))) (.cons (.ife (.p (.op .eq (.sl 3) (.lit (.int 0)))) (.cons (.ret (.mv 2)) .nil) .nil) (.cons (.ife (.p (.op .eq (.sl 3) (.lit (.int 1)))) (.cons (.ret (.lc [("leaf", 8)] (.n 8) (.rng1 (.p (.sl 1))) CT_law_mk_leaves_3 CE_law_mk_leaves_3)) .nil) .nil) (.cons (.ife (.cmp .isin (.p (.sl 3)) (.tup (.cons (.p (.lit (.int 2))) (.cons (.p (.lit (.int 3))) .nil)))) (.cons (.asg 5 (.call 14 (.q [.io 0, .b (.sl 1)]))) (.cons (.asgLc 6 [("leaf", 8)] (.n 8) (.rng1 (.p (.sl 1))) CT_law_mk_leaves_4 CE_law_mk_leaves_4) (.cons (.ife (.or (.p (.op .eq (.sl 3) (.lit (.int 2)))) (.cmp .eq (.fzs 2) (.lst .nil))) (.cons (.ret (.mv 6)) .nil) .nil) (.cons (.ret (.ife (.p (.op .isin (.ix (.sl 2) (.lit (.int 0))) (.sl 6))) (.lc [("leaf", 8)] (.n 8) (.lst (.mv 6)) CT_law_mk_leaves_5 CE_law_mk_leaves_5) (.bf .sorted (.cons (.add (.mv 6) (.lst (.cons (.p (.ix (.sl 2) (.lit (.int 0)))) .nil))) .nil)))) .nil)))) .nil) (.cons (.ife (.p (.op .eq (.sl 3) (.lit (.int 4)))) (.cons (.ret (.lc [("leaf", 8)] (.n 8) (.rng1 (.p (.sl 1))) CT_law_mk_leaves_6 CE_law_mk_leaves_6)) .nil) .nil) (.cons (.ret (.ife (.p (.op .eq (.ix (.sl 4) (.lit (.int 0))) (.lit (.int 1)))) (.lrng1 (.p (.sl 1))) (.lst .nil))) .nil)))))))⟩
noncomputable def tb16 : List Cal := tb15 ++ [d_law_mk_leaves.cal tb15]
noncomputable def F_law_mk_leaves : List T → Option Out := d_law_mk_leaves.F tb15
theorem F_law_mk_leaves_eq (ts : List T) : F_law_mk_leaves ts = denB (evSs tb15 d_law_mk_leaves.b) 2 9 [0] ts := rfl
theorem at_15_10 : tb15[10]? = some ⟨"_law_coin", 2, none, [], [], F_law_coin⟩ := rfl
theorem at_15_14 : tb15[14]? = some ⟨"_law_mk_part", 2, none, [], [], F_law_mk_part⟩ := rfl
def CT_law_mk_spread_1 : Bs := .nil
def CE_law_mk_spread_1 : E := (.p (.op .add (.sl 3) (.sl 4)))
def B_law_mk_spread_1 : Ss := (.cons (.ex (.mm .extend 2 (.cons (.lc [("leaf", 4)] (.n 4) (.lst (.p (.ix (.sl 0) (.lit (.int 1))))) CT_law_mk_spread_1 CE_law_mk_spread_1) .nil))) .nil)
def d_law_mk_spread : Df := ⟨"_law_mk_spread", topOf bd 20, ["lot_here", "base", "found", "start", "leaf"], ["lot_here", "base"], [],
  (.cons (.asg 2 (.lst .nil)) (.cons (.for_ (.n 3) (.rng3 (.p (.lit (.int 0))) (.p (.sl 1)) (.p (.ix (.sl 0) (.lit (.int 0))))) B_law_mk_spread_1) (.cons (.ret (.mv 2)) .nil)))⟩
noncomputable def tb17 : List Cal := tb16 ++ [d_law_mk_spread.cal tb16]
noncomputable def F_law_mk_spread : List T → Option Out := d_law_mk_spread.F tb16
theorem F_law_mk_spread_eq (ts : List T) : F_law_mk_spread ts = denB (evSs tb16 d_law_mk_spread.b) 2 5 [] ts := rfl
def CT_law_mk_marks_1 : Bs := .nil
def CE_law_mk_marks_1 : E := (.p (.lit (.bl false)))
def B_law_mk_marks_1 : Ss := (.cons (.set (.s 2) (.sl 3) (.p (.lit (.bl true)))) .nil)
def d_law_mk_marks : Df := ⟨"_law_mk_marks", topOf bd 21, ["lot_here", "base", "marks", "spot", "turn"], ["lot_here", "base"], [],
  (.cons (.asgLc 2 [("turn", 4)] (.n 4) (.rng1 (.p (.sl 1))) CT_law_mk_marks_1 CE_law_mk_marks_1) (.cons (.for_ (.n 3) (.lst (.call 16 (.c (.mv 0) (.bf (.sl 1) (.q []))))) B_law_mk_marks_1) (.cons (.ret (.mv 2)) .nil)))⟩
noncomputable def tb18 : List Cal := tb17 ++ [d_law_mk_marks.cal tb17]
noncomputable def F_law_mk_marks : List T → Option Out := d_law_mk_marks.F tb17
theorem F_law_mk_marks_eq (ts : List T) : F_law_mk_marks ts = denB (evSs tb17 d_law_mk_marks.b) 2 5 [] ts := rfl
theorem at_17_16 : tb17[16]? = some ⟨"_law_mk_spread", 2, none, [], [], F_law_mk_spread⟩ := rfl
def B_law_mk_longest_1 : Ss := (.cons (.asg 3 (.p (.ife (.sl 1) (.lit (.int 0)) (.op .add (.sl 3) (.lit (.int 1)))))) (.cons (.asg 2 (.p (.b2 .max (.sl 2) (.sl 3)))) .nil))
def d_law_mk_longest : Df := ⟨"_law_mk_longest", topOf bd 23, ["marks", "here", "best", "now"], ["marks"], [],
  (.cons (.tgt (.t (.cons (.n 2) (.cons (.n 3) .nil))) (.tup (.cons (.p (.lit (.int 0))) (.cons (.p (.lit (.int 0))) .nil)))) (.cons (.for_ (.n 1) (.lst (.add (.fzs 0) (.mv 0))) B_law_mk_longest_1) (.cons (.ret (.p (.sl 2))) .nil)))⟩
noncomputable def tb19 : List Cal := tb18 ++ [d_law_mk_longest.cal tb18]
noncomputable def F_law_mk_longest : List T → Option Out := d_law_mk_longest.F tb18
theorem F_law_mk_longest_eq (ts : List T) : F_law_mk_longest ts = denB (evSs tb18 d_law_mk_longest.b) 1 4 [] ts := rfl
def B_law_right_1 : Ss := (.cons (.asg 11 (.p (.op .add (.op .add (.sl 5) (.sl 6)) (.lit (.int 1))))) (.cons (.ex (.mm .append 10 (.cons (.bin .sub (.call 6 (.c (.fzs 2) (.bf (.sl 11) (.q [])))) (.p (.sl 11))) .nil))) .nil))
def d_law_right : Df := ⟨"_law_right", topOf bd 24, ["purse", "base", "item", "told", "due", "far", "leaf", "kept", "marks", "start", "waits", "moment"], ["purse"], [0],
  (.cons (.asg 1 (.call 12 (.q [.io 0]))) (.cons (.asg 2 (.tup (.cons (.p (.sl 1)) (.cons (.call 15 (.q [.io 0, .b (.sl 1)])) .nil)))) (.cons (.par2 7 8 (.cons (.bf .repr (.cons (.fzs 2) .nil)) (.cons (.call 17 (.c (.fzs 2) (.bf (.sl 1) (.q [])))) .nil))) (.cons (.asg 3 (.call 7 (.c (.fzs 2) (.q [])))) (.cons (.ife (.cmp .eq (.p (.ix (.sl 2) (.lit (.int 1)))) (.lst .nil)) (.cons (.ret (.and (.p (.op .isN (.sl 3) (.lit .non))) (.and (.cmp .isN (.callK0 8 [(.sl 2)]) (.p (.lit .non))) (.cmp .eq (.bf .repr (.cons (.mv 2) .nil)) (.p (.sl 7)))))) .nil) .nil) (.cons (.asg 4 (.call 18 (.c (.mv 8) (.q [])))) (.cons (.ife (.or (.not (.val (.call 11 (.c (.fzs 3) (.q []))))) (.or (.p (.op .ne (.sl 3) (.sl 4))) (.cmp .ne (.callK0 8 [(.sl 2)]) (.p (.sl 4))))) (.cons (.ret (.p (.lit (.bl false)))) .nil) .nil) (.cons (.par2 9 10 (.cons (.call 10 (.q [.io 0, .b (.b1 .len (.ix (.sl 2) (.lit (.int 1))))])) (.cons (.lst .nil) .nil))) (.cons (.asg 5 (.bin .mul (.p (.sl 1)) (.call 10 (.io 0 (.c (.ix (.lst (.cons (.p (.lit (.int 2))) (.cons (.p (.op .pow (.lit (.int 10)) (.lit (.int 26)))) .nil))) (.call 10 (.q [.io 0, .b (.lit (.int 2))]))) (.q [])))))) (.cons (.for_ (.n 6) (.lst (.add (.slice (.p (.ix (.sl 2) (.lit (.int 1)))) (.some (.p (.sl 9))) (.some (.p (.op .add (.sl 9) (.lit (.int 40)))))) (.slice (.slice (.p (.ix (.sl 2) (.lit (.int 1)))) .none (.some (.p (.sl 9)))) .none (.some (.p (.lit (.int 40))))))) B_law_right_1) (.cons (.ife (.cmp .gt (.bf .max (.cons (.fzs 10) .nil)) (.p (.sl 4))) (.cons (.ret (.p (.lit (.bl false)))) .nil) .nil) (.cons (.ife (.and (.p (.op .le (.b1 .len (.ix (.sl 2) (.lit (.int 1)))) (.lit (.int 40)))) (.cmp .ne (.bf .max (.cons (.mv 10) .nil)) (.p (.sl 4)))) (.cons (.ret (.p (.lit (.bl false)))) .nil) .nil) (.cons (.ife (.or (.cmp .ne (.call 7 (.c (.call 3 (.q [.b (.sl 1), .b (.ix (.sl 2) (.lit (.int 1)))])) (.q []))) (.p (.sl 4))) (.cmp .isnN (.call 7 (.c (.tup (.cons (.p (.lit (.int 1))) (.cons (.lst .nil) .nil))) (.q []))) (.p (.lit .non)))) (.cons (.ret (.p (.lit (.bl false)))) .nil) .nil) (.cons (.ret (.and (.cmp .eq (.call 7 (.c (.tup (.cons (.p (.lit (.int 1))) (.cons (.lst (.cons (.p (.lit (.int 0))) .nil)) .nil))) (.q []))) (.p (.lit (.int 0)))) (.and (.cmp .eq (.call 7 (.c (.tup (.cons (.p (.sl 1)) (.cons (.lst (.cons (.p (.op .sub (.sl 1) (.lit (.int 1)))) .nil)) .nil))) (.q []))) (.p (.op .sub (.sl 1) (.lit (.int 1))))) (.cmp .eq (.bf .repr (.cons (.mv 2) .nil)) (.p (.sl 7)))))) .nil))))))))))))))⟩
noncomputable def tb20 : List Cal := tb19 ++ [d_law_right.cal tb19]
noncomputable def F_law_right : List T → Option Out := d_law_right.F tb19
theorem F_law_right_eq (ts : List T) : F_law_right ts = denB (evSs tb19 d_law_right.b) 1 12 [0] ts := rfl
theorem at_19_3 : tb19[3]? = some ⟨"lot", 2, none, [], [], F_lot⟩ := rfl
theorem at_19_6 : tb19[6]? = some ⟨"next_day", 2, none, [], [], F_next_day⟩ := rfl
theorem at_19_7 : tb19[7]? = some ⟨"widest", 1, none, [], [], F_widest⟩ := rfl
theorem at_19_8 : tb19[8]? = some ⟨"widest", 0, none, ["one"], [0], F_widest⟩ := rfl
theorem at_19_10 : tb19[10]? = some ⟨"_law_coin", 2, none, [], [], F_law_coin⟩ := rfl
theorem at_19_11 : tb19[11]? = some ⟨"_law_mk_is_integer", 1, none, [], [], F_law_mk_is_integer⟩ := rfl
theorem at_19_12 : tb19[12]? = some ⟨"_law_mk_base", 1, none, [], [], F_law_mk_base⟩ := rfl
theorem at_19_15 : tb19[15]? = some ⟨"_law_mk_leaves", 2, none, [], [], F_law_mk_leaves⟩ := rfl
theorem at_19_17 : tb19[17]? = some ⟨"_law_mk_marks", 2, none, [], [], F_law_mk_marks⟩ := rfl
theorem at_19_18 : tb19[18]? = some ⟨"_law_mk_longest", 1, none, [], [], F_law_mk_longest⟩ := rfl
def B_law_1 : Ss := (.cons (.asg 2 (.call 9 (.c (.fzs 0) (.bf (.sl 1) (.q []))))) (.cons (.ife (.not (.val (.call 19 (.q [.io 2])))) (.cons (.ret (.p (.lit (.bl false)))) .nil) .nil) .nil))
def d_law : Df := ⟨"law", topOf bd 25, ["script", "spot", "purse"], ["script"], [],
  (.cons (.for_ (.n 1) (.rng1 (.p (.b2 .max (.lit (.int 1)) (.b2 .min (.lit (.int 6)) (.b1 .len (.sl 0)))))) B_law_1) (.cons (.ret (.p (.lit (.bl true)))) .nil))⟩
noncomputable def F_law : List T → Option Out := d_law.F tb20
theorem F_law_eq (ts : List T) : F_law ts = denB (evSs tb20 d_law.b) 1 3 [] ts := rfl
theorem at_20_9 : tb20[9]? = some ⟨"_law_purse", 2, none, [], [], F_law_purse⟩ := rfl
theorem at_20_19 : tb20[19]? = some ⟨"_law_right", 1, none, [], [], F_law_right⟩ := rfl
theorem sc_d_prime_parts : FnScope d_prime_parts.N d_prime_parts.ps (defScope d_prime_parts.st) := ⟨by kernel_rfl, by kernel_rfl, by kernel_rfl, by decide +kernel, by kernel_rfl, by decide +kernel, by decide +kernel⟩
theorem mt_d_prime_parts : mtSs tb0 d_prime_parts.b (d_prime_parts.cx con) (defBody d_prime_parts.st) = true := by decide +kernel
theorem sc_d_goes_round : FnScope d_goes_round.N d_goes_round.ps (defScope d_goes_round.st) := ⟨by kernel_rfl, by kernel_rfl, by kernel_rfl, by decide +kernel, by kernel_rfl, by decide +kernel, by decide +kernel⟩
theorem mt_d_goes_round : mtSs tb1 d_goes_round.b (d_goes_round.cx con) (defBody d_goes_round.st) = true := by decide +kernel
theorem sc_d_told_lot : FnScope d_told_lot.N d_told_lot.ps (defScope d_told_lot.st) := ⟨by kernel_rfl, by kernel_rfl, by kernel_rfl, by decide +kernel, by kernel_rfl, by decide +kernel, by decide +kernel⟩
theorem mt_d_told_lot : mtSs tb2 d_told_lot.b (d_told_lot.cx con) (defBody d_told_lot.st) = true := by decide +kernel
theorem sc_d_lot : FnScope d_lot.N d_lot.ps (defScope d_lot.st) := ⟨by kernel_rfl, by kernel_rfl, by kernel_rfl, by decide +kernel, by kernel_rfl, by decide +kernel, by decide +kernel⟩
theorem mt_d_lot : mtSs tb3 d_lot.b (d_lot.cx con) (defBody d_lot.st) = true := by decide +kernel
theorem sc_d_check_lots : FnScope d_check_lots.N d_check_lots.ps (defScope d_check_lots.st) := ⟨by kernel_rfl, by kernel_rfl, by kernel_rfl, by decide +kernel, by kernel_rfl, by decide +kernel, by decide +kernel⟩
theorem mt_d_check_lots : mtSs tb4 d_check_lots.b (d_check_lots.cx con) (defBody d_check_lots.st) = true := by decide +kernel
theorem sc_d_check_days : FnScope d_check_days.N d_check_days.ps (defScope d_check_days.st) := ⟨by kernel_rfl, by kernel_rfl, by kernel_rfl, by decide +kernel, by kernel_rfl, by decide +kernel, by decide +kernel⟩
theorem mt_d_check_days : mtSs tb5 d_check_days.b (d_check_days.cx con) (defBody d_check_days.st) = true := by decide +kernel
theorem sc_d_next_day : FnScope d_next_day.N d_next_day.ps (defScope d_next_day.st) := ⟨by kernel_rfl, by kernel_rfl, by kernel_rfl, by decide +kernel, by kernel_rfl, by decide +kernel, by decide +kernel⟩
theorem mt_d_next_day : mtSs tb6 d_next_day.b (d_next_day.cx con) (defBody d_next_day.st) = true := by decide +kernel
theorem sc_d_widest : FnScope d_widest.N d_widest.ps (defScope d_widest.st) := ⟨by kernel_rfl, by kernel_rfl, by kernel_rfl, by decide +kernel, by kernel_rfl, by decide +kernel, by decide +kernel⟩
theorem mt_d_widest : mtSs tb7 d_widest.b (d_widest.cx con) (defBody d_widest.st) = true := by decide +kernel
theorem sc_d_law_purse : FnScope d_law_purse.N d_law_purse.ps (defScope d_law_purse.st) := ⟨by kernel_rfl, by kernel_rfl, by kernel_rfl, by decide +kernel, by kernel_rfl, by decide +kernel, by decide +kernel⟩
theorem mt_d_law_purse : mtSs tb9 d_law_purse.b (d_law_purse.cx con) (defBody d_law_purse.st) = true := by decide +kernel
theorem sc_d_law_coin : FnScope d_law_coin.N d_law_coin.ps (defScope d_law_coin.st) := ⟨by kernel_rfl, by kernel_rfl, by kernel_rfl, by decide +kernel, by kernel_rfl, by decide +kernel, by decide +kernel⟩
theorem mt_d_law_coin : mtSs tb10 d_law_coin.b (d_law_coin.cx con) (defBody d_law_coin.st) = true := by decide +kernel
theorem sc_d_law_mk_is_integer : FnScope d_law_mk_is_integer.N d_law_mk_is_integer.ps (defScope d_law_mk_is_integer.st) := ⟨by kernel_rfl, by kernel_rfl, by kernel_rfl, by decide +kernel, by kernel_rfl, by decide +kernel, by decide +kernel⟩
theorem mt_d_law_mk_is_integer : mtSs tb11 d_law_mk_is_integer.b (d_law_mk_is_integer.cx con) (defBody d_law_mk_is_integer.st) = true := by decide +kernel
theorem sc_d_law_mk_base : FnScope d_law_mk_base.N d_law_mk_base.ps (defScope d_law_mk_base.st) := ⟨by kernel_rfl, by kernel_rfl, by kernel_rfl, by decide +kernel, by kernel_rfl, by decide +kernel, by decide +kernel⟩
theorem mt_d_law_mk_base : mtSs tb12 d_law_mk_base.b (d_law_mk_base.cx con) (defBody d_law_mk_base.st) = true := by decide +kernel
theorem sc_d_law_mk_primes : FnScope d_law_mk_primes.N d_law_mk_primes.ps (defScope d_law_mk_primes.st) := ⟨by kernel_rfl, by kernel_rfl, by kernel_rfl, by decide +kernel, by kernel_rfl, by decide +kernel, by decide +kernel⟩
theorem mt_d_law_mk_primes : mtSs tb13 d_law_mk_primes.b (d_law_mk_primes.cx con) (defBody d_law_mk_primes.st) = true := by decide +kernel
theorem sc_d_law_mk_part : FnScope d_law_mk_part.N d_law_mk_part.ps (defScope d_law_mk_part.st) := ⟨by kernel_rfl, by kernel_rfl, by kernel_rfl, by decide +kernel, by kernel_rfl, by decide +kernel, by decide +kernel⟩
theorem mt_d_law_mk_part : mtSs tb14 d_law_mk_part.b (d_law_mk_part.cx con) (defBody d_law_mk_part.st) = true := by decide +kernel
theorem sc_d_law_mk_leaves : FnScope d_law_mk_leaves.N d_law_mk_leaves.ps (defScope d_law_mk_leaves.st) := ⟨by kernel_rfl, by kernel_rfl, by kernel_rfl, by decide +kernel, by kernel_rfl, by decide +kernel, by decide +kernel⟩
theorem mt_d_law_mk_leaves : mtSs tb15 d_law_mk_leaves.b (d_law_mk_leaves.cx con) (defBody d_law_mk_leaves.st) = true := by decide +kernel
theorem sc_d_law_mk_spread : FnScope d_law_mk_spread.N d_law_mk_spread.ps (defScope d_law_mk_spread.st) := ⟨by kernel_rfl, by kernel_rfl, by kernel_rfl, by decide +kernel, by kernel_rfl, by decide +kernel, by decide +kernel⟩
theorem mt_d_law_mk_spread : mtSs tb16 d_law_mk_spread.b (d_law_mk_spread.cx con) (defBody d_law_mk_spread.st) = true := by decide +kernel
theorem sc_d_law_mk_marks : FnScope d_law_mk_marks.N d_law_mk_marks.ps (defScope d_law_mk_marks.st) := ⟨by kernel_rfl, by kernel_rfl, by kernel_rfl, by decide +kernel, by kernel_rfl, by decide +kernel, by decide +kernel⟩
theorem mt_d_law_mk_marks : mtSs tb17 d_law_mk_marks.b (d_law_mk_marks.cx con) (defBody d_law_mk_marks.st) = true := by decide +kernel
theorem sc_d_law_mk_longest : FnScope d_law_mk_longest.N d_law_mk_longest.ps (defScope d_law_mk_longest.st) := ⟨by kernel_rfl, by kernel_rfl, by kernel_rfl, by decide +kernel, by kernel_rfl, by decide +kernel, by decide +kernel⟩
theorem mt_d_law_mk_longest : mtSs tb18 d_law_mk_longest.b (d_law_mk_longest.cx con) (defBody d_law_mk_longest.st) = true := by decide +kernel
theorem sc_d_law_right : FnScope d_law_right.N d_law_right.ps (defScope d_law_right.st) := ⟨by kernel_rfl, by kernel_rfl, by kernel_rfl, by decide +kernel, by kernel_rfl, by decide +kernel, by decide +kernel⟩
theorem mt_d_law_right : mtSs tb19 d_law_right.b (d_law_right.cx con) (defBody d_law_right.st) = true := by decide +kernel
theorem sc_d_law : FnScope d_law.N d_law.ps (defScope d_law.st) := ⟨by kernel_rfl, by kernel_rfl, by kernel_rfl, by decide +kernel, by kernel_rfl, by decide +kernel, by decide +kernel⟩
theorem mt_d_law : mtSs tb20 d_law.b (d_law.cx con) (defBody d_law.st) = true := by decide +kernel
section
variable {P : Program} {w : World} {K : PySem.W.Frag} {mg : Str → Option Value} {base h : Heap}
theorem chain (c : He.SaysE fa fn K) (X : K.In h) (G : h.Ns mainGlobals mg) : TabM P w K mg base 20 ⟨K, fun _ => 0⟩ tb20 := by
  have M : Md ⟨K, fun _ => 0⟩ K mg con := hdr_md c X G rfl (by decide)
  have T0 : TabM P w K mg base 0 ⟨K, fun _ => 0⟩ tb0 := TabM.nil
  have T1 : TabM P w K mg base 1 ⟨K, fun _ => 0⟩ tb1 := Df.addP (d := d_prime_parts) M T0 (hdr_fun c (p := ("prime_parts", 5)) (by decide)) (hdr_mg c X G (p := ("prime_parts", 5)) (by decide)) sc_d_prime_parts (T0.up (by decide)) mt_d_prime_parts fun kV doc pm an cdv ct us hl => match us, hl with | [_, _], _ => rfl
  have T2 : TabM P w K mg base 2 ⟨K, fun _ => 0⟩ tb2 := Df.addP (d := d_goes_round) M T1 (hdr_fun c (p := ("goes_round", 6)) (by decide)) (hdr_mg c X G (p := ("goes_round", 6)) (by decide)) sc_d_goes_round (T1.up (by decide)) mt_d_goes_round fun kV doc pm an cdv ct us hl => match us, hl with | [_, _, _], _ => rfl
  have T3 : TabM P w K mg base 3 ⟨K, fun _ => 0⟩ tb3 := Df.addP (d := d_told_lot) M T2 (hdr_fun c (p := ("told_lot", 7)) (by decide)) (hdr_mg c X G (p := ("told_lot", 7)) (by decide)) sc_d_told_lot (T2.up (by decide)) mt_d_told_lot fun kV doc pm an cdv ct us hl => match us, hl with | [_, _], _ => rfl
  have T4 : TabM P w K mg base 4 ⟨K, fun _ => 0⟩ tb4 := Df.addP (d := d_lot) M T3 (hdr_fun c (p := ("lot", 8)) (by decide)) (hdr_mg c X G (p := ("lot", 8)) (by decide)) sc_d_lot (T3.up (by decide)) mt_d_lot fun kV doc pm an cdv ct us hl => match us, hl with | [_, _], _ => rfl
  have T5 : TabM P w K mg base 5 ⟨K, fun _ => 0⟩ tb5 := Df.addS (d := d_check_lots) (n := 1) (qs := []) (pv := "asked") M T4 (hdr_fun c (p := ("check_lots", 9)) (by decide)) (hdr_mg c X G (p := ("check_lots", 9)) (by decide)) rfl sc_d_check_lots (T4.up (by decide)) mt_d_check_lots (by decide) fun kV doc pm an cdv ct us hl => match us, hl with | [_], _ => rfl
  have T6 : TabM P w K mg base 6 ⟨K, fun _ => 0⟩ tb6 := Df.addS (d := d_check_days) (n := 1) (qs := []) (pv := "asked") M T5 (hdr_fun c (p := ("check_days", 10)) (by decide)) (hdr_mg c X G (p := ("check_days", 10)) (by decide)) rfl sc_d_check_days (T5.up (by decide)) mt_d_check_days (by decide) fun kV doc pm an cdv ct us hl => match us, hl with | [_], _ => rfl
  have T7 : TabM P w K mg base 7 ⟨K, fun _ => 0⟩ tb7 := Df.addP (d := d_next_day) M T6 (hdr_fun c (p := ("next_day", 11)) (by decide)) (hdr_mg c X G (p := ("next_day", 11)) (by decide)) sc_d_next_day (T6.up (by decide)) mt_d_next_day fun kV doc pm an cdv ct us hl => match us, hl with | [_, _], _ => rfl
  have T8 : TabM P w K mg base 8 ⟨K, fun _ => 0⟩ tb8 := Df.addP (d := d_widest) M T7 (hdr_fun c (p := ("widest", 12)) (by decide)) (hdr_mg c X G (p := ("widest", 12)) (by decide)) sc_d_widest (T7.up (by decide)) mt_d_widest fun kV doc pm an cdv ct us hl => match us, hl with | [_], _ => rfl
  have T9 : TabM P w K mg base 9 ⟨K, fun _ => 0⟩ tb9 := Df.addK (d := d_widest) (n := 0) (ks := []) (idx := [0]) (ky := "one") M T8 (hdr_fun c (p := ("widest", 12)) (by decide)) (hdr_mg c X G (p := ("widest", 12)) (by decide)) sc_d_widest (T7.up (by decide)) mt_d_widest (by decide) (by decide) fun kV doc pm an cdv ct us ws hl hw => match us, ws, hl, hw with | [], [_], _, _ => rfl
  have T10 : TabM P w K mg base 10 ⟨K, fun _ => 0⟩ tb10 := Df.addP (d := d_law_purse) M T9 (hdr_fun c (p := ("_law_purse", 14)) (by decide)) (hdr_mg c X G (p := ("_law_purse", 14)) (by decide)) sc_d_law_purse (T9.up (by decide)) mt_d_law_purse fun kV doc pm an cdv ct us hl => match us, hl with | [_, _], _ => rfl
  have T11 : TabM P w K mg base 11 ⟨K, fun _ => 0⟩ tb11 := Df.addP (d := d_law_coin) M T10 (hdr_fun c (p := ("_law_coin", 15)) (by decide)) (hdr_mg c X G (p := ("_law_coin", 15)) (by decide)) sc_d_law_coin (T10.up (by decide)) mt_d_law_coin fun kV doc pm an cdv ct us hl => match us, hl with | [_, _], _ => rfl
  have T12 : TabM P w K mg base 12 ⟨K, fun _ => 0⟩ tb12 := Df.addP (d := d_law_mk_is_integer) M T11 (hdr_fun c (p := ("_law_mk_is_integer", 16)) (by decide)) (hdr_mg c X G (p := ("_law_mk_is_integer", 16)) (by decide)) sc_d_law_mk_is_integer (T11.up (by decide)) mt_d_law_mk_is_integer fun kV doc pm an cdv ct us hl => match us, hl with | [_], _ => rfl
  have T13 : TabM P w K mg base 13 ⟨K, fun _ => 0⟩ tb13 := Df.addP (d := d_law_mk_base) M T12 (hdr_fun c (p := ("_law_mk_base", 17)) (by decide)) (hdr_mg c X G (p := ("_law_mk_base", 17)) (by decide)) sc_d_law_mk_base (T12.up (by decide)) mt_d_law_mk_base fun kV doc pm an cdv ct us hl => match us, hl with | [_], _ => rfl
  have T14 : TabM P w K mg base 14 ⟨K, fun _ => 0⟩ tb14 := Df.addP (d := d_law_mk_primes) M T13 (hdr_fun c (p := ("_law_mk_primes", 22)) (by decide)) (hdr_mg c X G (p := ("_law_mk_primes", 22)) (by decide)) sc_d_law_mk_primes (T13.up (by decide)) mt_d_law_mk_primes fun kV doc pm an cdv ct us hl => match us, hl with | [_], _ => rfl
  have T15 : TabM P w K mg base 15 ⟨K, fun _ => 0⟩ tb15 := Df.addP (d := d_law_mk_part) M T14 (hdr_fun c (p := ("_law_mk_part", 18)) (by decide)) (hdr_mg c X G (p := ("_law_mk_part", 18)) (by decide)) sc_d_law_mk_part (T14.up (by decide)) mt_d_law_mk_part fun kV doc pm an cdv ct us hl => match us, hl with | [_, _], _ => rfl
  have T16 : TabM P w K mg base 16 ⟨K, fun _ => 0⟩ tb16 := Df.addP (d := d_law_mk_leaves) M T15 (hdr_fun c (p := ("_law_mk_leaves", 19)) (by decide)) (hdr_mg c X G (p := ("_law_mk_leaves", 19)) (by decide)) sc_d_law_mk_leaves (T15.up (by decide)) mt_d_law_mk_leaves fun kV doc pm an cdv ct us hl => match us, hl with | [_, _], _ => rfl
  have T17 : TabM P w K mg base 17 ⟨K, fun _ => 0⟩ tb17 := Df.addP (d := d_law_mk_spread) M T16 (hdr_fun c (p := ("_law_mk_spread", 20)) (by decide)) (hdr_mg c X G (p := ("_law_mk_spread", 20)) (by decide)) sc_d_law_mk_spread (T16.up (by decide)) mt_d_law_mk_spread fun kV doc pm an cdv ct us hl => match us, hl with | [_, _], _ => rfl
  have T18 : TabM P w K mg base 18 ⟨K, fun _ => 0⟩ tb18 := Df.addP (d := d_law_mk_marks) M T17 (hdr_fun c (p := ("_law_mk_marks", 21)) (by decide)) (hdr_mg c X G (p := ("_law_mk_marks", 21)) (by decide)) sc_d_law_mk_marks (T17.up (by decide)) mt_d_law_mk_marks fun kV doc pm an cdv ct us hl => match us, hl with | [_, _], _ => rfl
  have T19 : TabM P w K mg base 19 ⟨K, fun _ => 0⟩ tb19 := Df.addP (d := d_law_mk_longest) M T18 (hdr_fun c (p := ("_law_mk_longest", 23)) (by decide)) (hdr_mg c X G (p := ("_law_mk_longest", 23)) (by decide)) sc_d_law_mk_longest (T18.up (by decide)) mt_d_law_mk_longest fun kV doc pm an cdv ct us hl => match us, hl with | [_], _ => rfl
  have T20 : TabM P w K mg base 20 ⟨K, fun _ => 0⟩ tb20 := Df.addP (d := d_law_right) M T19 (hdr_fun c (p := ("_law_right", 24)) (by decide)) (hdr_mg c X G (p := ("_law_right", 24)) (by decide)) sc_d_law_right (T19.up (by decide)) mt_d_law_right fun kV doc pm an cdv ct us hl => match us, hl with | [_], _ => rfl
  exact T20
end
end Lw
section
open PySem PySem.W PySem.Calls PyProof.Rows
theorem Lw.holds (good : ∀ ns : List Int, ns.length ≤ 63 → (∀ i ∈ ns, Builtin.Int.intBits i ≤ 1048576) → ∃ fin, Lw.d_law.F Lw.tb20 [.fz (.scr ns)] = some (.ret (.fz (.bl true)) fin)) : PySem.Challenge.rw_marketdays_k06_widest_waits.Holds := by
  w_on; o_law
  refine HandSHeadRun.head_any (r := OpenLaw.row PySem.Challenge.rw_marketdays_k06_widest_waits) (q := view (PySem.W.OpenLaw.row PySem.Challenge.rw_marketdays_k06_widest_waits).prog [25]) (H := Lw.hk) (ob := Lw.ob) (M := 3000) (loose := Lw.names) (d := HandSHeadRun.topDef (PySem.W.OpenLaw.row PySem.Challenge.rw_marketdays_k06_widest_waits).prog 25) (kwd := []) Lw.ob_eq
    (by kernel_rfl) (fun s => by kernel_rfl) Lw.run (by kernel_rfl) (by kernel_rfl) (by kernel_rfl) (by rfl) (by first | assumption | decide +kernel) (by decide +kernel) ⟨rfl, rfl, rfl, rfl, rfl, by decide +kernel⟩ ?hw ?hc
  case hw => w_witness2
  case hc =>
    refine DL.walkF (l := PySem.Challenge.rw_marketdays_k06_widest_waits) (n := 63) (k := 21) (sp := fun g => DL.SpD g (Lw.d_law.F Lw.tb20)) rfl (by decide) (by kernel_rfl) ⟨rfl, by decide, by decide⟩ ?F fun g H a ns l b on sq => ?L
    case L =>
      obtain ⟨fin, e⟩ := good ns l b
      exact DL.spD_law on sq e
    case F =>
      intro w mg fa h Y G hmg0
      obtain ⟨K, KX, c⟩ := Y
      refine ⟨⟨K, fun _ => 0⟩, KX, fun base _ _ => ?_⟩
      have m : (("law" : PySem.Str), 25) ∈ Lw.dn := by decide
      have e2 : mg ("law" : PySem.Str) = some (.ref fa) := by
        have e : (HandSHeadRun.topDef (PySem.W.OpenLaw.row PySem.Challenge.rw_marketdays_k06_widest_waits).prog 25).name = ("law" : PySem.Str) := by kernel_rfl
        rw [← e]
        exact hmg0
      have e3 := DL.hdr_mg c KX G m
      have e4 : He.ga K ("law" : PySem.Str) = fa := by
        have z := e3.symm.trans e2
        cases z
        rfl
      subst e4
      exact DL.Df.fn (d := Lw.d_law) (DL.hdr_md c KX G rfl (by decide)) (DL.hdr_fun c m) Lw.sc_d_law (Lw.chain c KX G) Lw.mt_d_law fun kV doc pm an cdv ct us hl => match us, hl with | [_], _ => rfl
end
namespace Lw
open PySem DL
/-! ### the purse -/
theorem pw18 : powB 10 18 = true := by decide +kernel
theorem pw24 : powB 10 24 = true := by decide +kernel
theorem pw25 : powB 10 25 = true := by decide +kernel
theorem pw30 : powB 10 30 = true := by decide +kernel
def pur (a b c : Int) : T := .lst [.fz (.int a), .fz (.int b), .fz (.int c)]
structure Pu (k : Nat) (p : T) : Prop where
  ex : ∃ a b c : Int, p = pur a b c ∧ 0 ≤ a ∧ 0 ≤ b ∧ b < 1000000000000000000000007 ∧ 0 ≤ c ∧ c ≤ k
theorem Pu.up {k j : Nat} {p : T} (h : Pu k p) (l : k ≤ j) : Pu j p := let ⟨a, b, c, h1, h2, h3, h4, h5, h6⟩ := h.ex; ⟨a, b, c, h1, h2, h3, h4, h5, by omega⟩
theorem coin_ok {k : Nat} {p : T} (h : Pu k p) (hk : k ≤ 2 ^ 60) {n : Int} (hn : 0 < n) (hb : n ≤ 10000000000000000000000000000000) : ∃ p' r, Pu (k + 1) p' ∧ 0 ≤ r ∧ r < n ∧ F_law_coin [p, .fz (.int n)] = some (.ret (.fz (.int r)) [some p', none]) := by
  obtain ⟨a, b, c, rfl, ha, hb0, hb1, hc0, hc1⟩ := h.ex
  have dv : divB n = true := divB_le hn hb
  by_cases h0 : 0 < a
  · refine ⟨pur (a / n) b c, a % n, ⟨_, _, _, rfl, Int.ediv_nonneg ha (Int.le_of_lt hn), hb0, hb1, hc0, by omega⟩, Int.emod_nonneg _ (by omega), Int.emod_lt_of_pos _ hn, ?_⟩
    rw [F_law_coin_eq]
    simp -implicitDefEqProofs [denB, finS, d_law_coin, pur, h0, hn, dv, L2.atI, L2.ixN, List.range, List.range.loop, evV1, evKs, pR, fzsR, mvR, callR, callSR, callK0R, callKR, lcR, lc2R, evDs, seqD, DL.augR, mm1R, bfR, ioR, evE, evOe, evEs, evVs, evB, evBs, evI, evS, evSs, andR, orR, bR_ok, bR_ex, bR_no, bE_ok, bE_ex, bE_no, bF_nx, bF_ret, bF_bk, bF_ct, bF_ex, bF_no, oR_s, oR_n, evP, d_fz, d_lst, d_tup, o_add, o_adds, o_sub, o_mul, o_fdiv, o_mod, o_pow, o_lt, o_le, o_gt, o_ge, o_eq, o_ne, o_isN, o_isnN, o_in, o_nin, x_fl, x_ft, x_fs, x_l, x_t, b_lens, b_lenl, b_lent, b_lenr, b_int, b_intb, b_abs, b_min, b_max, t_bl, t_int, t_lst, t_tup, t_non, n_int, z_fz, i_ii, i_bi, i_bb, i_ib, nn_int, nn_non, o_neb, o_eqb, l_lst, l_tup, l_int, k_ft, k_t, y_fl, y_l, a_ints, a_ll, a_fl, a_lf, a_ff, m_app, m_ext, s_lst, callD, takeA, putA, retOk, lendA, ioA, isFz, T.sh, T.shs, shE, D.imm, D.imms, rsvPt, evSet, subT, putT, storeG, st_n, st_t, sts_n, sts_c, allFz, allFzA, tupT, evMmP, evMm, lstAt, wipeT, ownsA, pickL, callSt, evT_lit, evT_sl, evT_gl, evT_op, evT_ch, evT_not, evT_and, evT_or, evT_ife, evT_neg, evT_ix, evT_b1, evT_b2, evT_isi, sizeLine_eq, Function.comp_def]
  · have m1 : mulB 2038074743 (c + 1) = true := mulB_of (m := 31) (n := 61) (by decide) (by omega) (by decide)
    have m2 : mulB 982451653 (c + 1) = true := mulB_of (m := 31) (n := 61) (by decide) (by omega) (by decide)
    have p1 : powB (b + 2038074743 * (c + 1)) 3 = true := powB_of (j := 3) (m := 100) (by omega) (by decide)
    have s0 := Int.emod_nonneg ((b + 2038074743 * (c + 1)) ^ 3) (b := 10000000000000000000000013) (by decide)
    have s1 := Int.emod_lt_of_pos ((b + 2038074743 * (c + 1)) ^ 3) (b := 10000000000000000000000013) (by decide)
    have p2 : powB ((b + 2038074743 * (c + 1)) ^ 3 % 10000000000000000000000013 + 982451653 * (c + 1)) 2 = true := powB_of (j := 2) (m := 100) (by omega) (by decide)
    have d1 : divB 1024 = true := by decide +kernel
    refine ⟨pur a b (c + 1), (((b + 2038074743 * (c + 1)) ^ 3 % 10000000000000000000000013 + 982451653 * (c + 1)) ^ 2 % 1000000000000000000000007) / 1024 % n, ⟨_, _, _, rfl, ha, hb0, hb1, by omega, by omega⟩, Int.emod_nonneg _ (by omega), Int.emod_lt_of_pos _ hn, ?_⟩
    rw [F_law_coin_eq]
    simp -implicitDefEqProofs [denB, finS, d_law_coin, pur, h0, hn, L2.atI, L2.ixN, List.range, List.range.loop, pw24, pw25, m1, m2, p1, p2, d1, evV1, evKs, pR, fzsR, mvR, callR, callSR, callK0R, callKR, lcR, lc2R, evDs, seqD, DL.augR, mm1R, bfR, ioR, evE, evOe, evEs, evVs, evB, evBs, evI, evS, evSs, andR, orR, bR_ok, bR_ex, bR_no, bE_ok, bE_ex, bE_no, bF_nx, bF_ret, bF_bk, bF_ct, bF_ex, bF_no, oR_s, oR_n, evP, d_fz, d_lst, d_tup, o_add, o_adds, o_sub, o_mul, o_fdiv, o_mod, o_pow, o_lt, o_le, o_gt, o_ge, o_eq, o_ne, o_isN, o_isnN, o_in, o_nin, x_fl, x_ft, x_fs, x_l, x_t, b_lens, b_lenl, b_lent, b_lenr, b_int, b_intb, b_abs, b_min, b_max, t_bl, t_int, t_lst, t_tup, t_non, n_int, z_fz, i_ii, i_bi, i_bb, i_ib, nn_int, nn_non, o_neb, o_eqb, l_lst, l_tup, l_int, k_ft, k_t, y_fl, y_l, a_ints, a_ll, a_fl, a_lf, a_ff, m_app, m_ext, s_lst, callD, takeA, putA, retOk, lendA, ioA, isFz, T.sh, T.shs, shE, D.imm, D.imms, rsvPt, evSet, subT, putT, storeG, st_n, st_t, sts_n, sts_c, allFz, allFzA, tupT, evMmP, evMm, lstAt, wipeT, ownsA, pickL, callSt, evT_lit, evT_sl, evT_gl, evT_op, evT_ch, evT_not, evT_and, evT_or, evT_ife, evT_neg, evT_ix, evT_b1, evT_b2, evT_isi, sizeLine_eq, Function.comp_def]
theorem at_i {ns : List Int} {r : Int} (h0 : 0 ≤ r) (h : r < ns.length) : ∃ x ∈ ns, L2.atI (iT ns) r = some (.fz (.int x)) := by
  have hl : r.toNat < ns.length := by omega
  refine ⟨ns[r.toNat], List.getElem_mem hl, ?_⟩
  rw [atI_nat h0 (by rw [List.length_map]; exact h), List.getElem?_map, List.getElem?_eq_getElem hl]
  rfl
theorem purse_go {ns : List Int} {q cell : Int} (h0 : 0 ≤ q) (h1 : q < 64) (hc : Builtin.Int.intBits cell ≤ 1048576) {r : Option Fl} (tb : List Cal) (e : r = some (.nx [some (.fz (.scr ns)), some (.fz (.int q)), some (.fz (.int cell))])) :
    bindF r (evSs tb (.cons (.ret (.lst (.cons (.p (.b2 .max (.lit (.int 0)) (.op .sub (.b1 .abs (.sl 2)) (.op .pow (.lit (.int 10)) (.lit (.int 18)))))) (.cons (.p (.op .mod (.b1 .int (.op .add (.op .add (.op .mul (.sl 2) (.lit (.int 30011))) (.op .mul (.sl 1) (.lit (.int 7368787)))) (.lit (.int 104729)))) (.op .add (.op .pow (.lit (.int 10)) (.lit (.int 24))) (.lit (.int 7))))) (.cons (.p (.lit (.int 0))) .nil))))) .nil)) = some (.ret (pur (maxZ 0 (absZ cell - 1000000000000000000)) ((cell * 30011 + q * 7368787 + 104729) % 1000000000000000000000007) 0) [some (.fz (.scr ns)), some (.fz (.int q)), some (.fz (.int cell))]) := by
  have g2 : mulB cell 30011 = true := by
    unfold mulB
    rw [decide_eq_true_eq]
    have : Builtin.Int.intBits 30011 = 15 := by decide
    rw [this]
    omega
  have m2 : mulB q 7368787 = true := mulB_of (m := 6) (n := 23) (by omega) (by decide) (by decide)
  subst e
  simp -implicitDefEqProofs [pur, pw18, pw24, g2, m2, sizeLine_eq, evV1, evKs, pR, fzsR, mvR, callR, callSR, callK0R, callKR, lcR, lc2R, evDs, seqD, DL.augR, mm1R, bfR, ioR, evE, evOe, evEs, evVs, evB, evBs, evI, evS, evSs, andR, orR, bR_ok, bR_ex, bR_no, bE_ok, bE_ex, bE_no, bF_nx, bF_ret, bF_bk, bF_ct, bF_ex, bF_no, oR_s, oR_n, evP, d_fz, d_lst, d_tup, o_add, o_adds, o_sub, o_mul, o_fdiv, o_mod, o_pow, o_lt, o_le, o_gt, o_ge, o_eq, o_ne, o_isN, o_isnN, o_in, o_nin, x_fl, x_ft, x_fs, x_l, x_t, b_lens, b_lenl, b_lent, b_lenr, b_int, b_intb, b_abs, b_min, b_max, t_bl, t_int, t_lst, t_tup, t_non, n_int, z_fz, i_ii, i_bi, i_bb, i_ib, nn_int, nn_non, o_neb, o_eqb, l_lst, l_tup, l_int, k_ft, k_t, y_fl, y_l, a_ints, a_ll, a_fl, a_lf, a_ff, m_app, m_ext, s_lst, callD, takeA, putA, retOk, lendA, ioA, isFz, T.sh, T.shs, shE, D.imm, D.imms, rsvPt, evSet, subT, putT, storeG, st_n, st_t, sts_n, sts_c, allFz, allFzA, tupT, evMmP, evMm, lstAt, wipeT, ownsA, pickL, callSt, evT_lit, evT_sl, evT_gl, evT_op, evT_ch, evT_not, evT_and, evT_or, evT_ife, evT_neg, evT_ix, evT_b1, evT_b2, evT_isi, sizeLine_eq, Function.comp_def]
theorem purse_ok {ns : List Int} (hb : ∀ i ∈ ns, Builtin.Int.intBits i ≤ 1048576) {q : Int} (h0 : 0 ≤ q) (h1 : q < 64) : ∃ p, Pu 0 p ∧ F_law_purse [.fz (.scr ns), .fz (.int q)] = some (.ret p [none, none]) := by
  have go : ∀ cell : Int, Pu 0 (pur (maxZ 0 (absZ cell - 1000000000000000000)) ((cell * 30011 + q * 7368787 + 104729) % 1000000000000000000000007) 0) := fun cell =>
    ⟨_, _, _, rfl, (maxZ_le _ _).1, Int.emod_nonneg _ (by decide), Int.emod_lt_of_pos _ (by decide), by decide, by decide⟩
  have st : ∀ tb, ∃ cell : Int, Builtin.Int.intBits cell ≤ 1048576 ∧ evS tb (.asg 2 (.p (.ife (.op .lt (.sl 1) (.b1 .len (.sl 0))) (.ix (.sl 0) (.sl 1)) (.lit (.int 0))))) [some (.fz (.scr ns)), some (.fz (.int q)), none] = some (.nx [some (.fz (.scr ns)), some (.fz (.int q)), some (.fz (.int cell))]) := by
    intro tb
    by_cases hq : q < ns.length
    · have hl : q.toNat < ns.length := by omega
      exact ⟨ns[q.toNat], hb _ (List.getElem_mem hl), by simp -implicitDefEqProofs [hq, atI_nat h0 hq, List.getElem?_eq_getElem hl, evV1, evKs, pR, fzsR, mvR, callR, callSR, callK0R, callKR, lcR, lc2R, evDs, seqD, DL.augR, mm1R, bfR, ioR, evE, evOe, evEs, evVs, evB, evBs, evI, evS, evSs, andR, orR, bR_ok, bR_ex, bR_no, bE_ok, bE_ex, bE_no, bF_nx, bF_ret, bF_bk, bF_ct, bF_ex, bF_no, oR_s, oR_n, evP, d_fz, d_lst, d_tup, o_add, o_adds, o_sub, o_mul, o_fdiv, o_mod, o_pow, o_lt, o_le, o_gt, o_ge, o_eq, o_ne, o_isN, o_isnN, o_in, o_nin, x_fl, x_ft, x_fs, x_l, x_t, b_lens, b_lenl, b_lent, b_lenr, b_int, b_intb, b_abs, b_min, b_max, t_bl, t_int, t_lst, t_tup, t_non, n_int, z_fz, i_ii, i_bi, i_bb, i_ib, nn_int, nn_non, o_neb, o_eqb, l_lst, l_tup, l_int, k_ft, k_t, y_fl, y_l, a_ints, a_ll, a_fl, a_lf, a_ff, m_app, m_ext, s_lst, callD, takeA, putA, retOk, lendA, ioA, isFz, T.sh, T.shs, shE, D.imm, D.imms, rsvPt, evSet, subT, putT, storeG, st_n, st_t, sts_n, sts_c, allFz, allFzA, tupT, evMmP, evMm, lstAt, wipeT, ownsA, pickL, callSt, evT_lit, evT_sl, evT_gl, evT_op, evT_ch, evT_not, evT_and, evT_or, evT_ife, evT_neg, evT_ix, evT_b1, evT_b2, evT_isi, sizeLine_eq, Function.comp_def]⟩
    · exact ⟨0, by decide, by simp -implicitDefEqProofs [hq, evV1, evKs, pR, fzsR, mvR, callR, callSR, callK0R, callKR, lcR, lc2R, evDs, seqD, DL.augR, mm1R, bfR, ioR, evE, evOe, evEs, evVs, evB, evBs, evI, evS, evSs, andR, orR, bR_ok, bR_ex, bR_no, bE_ok, bE_ex, bE_no, bF_nx, bF_ret, bF_bk, bF_ct, bF_ex, bF_no, oR_s, oR_n, evP, d_fz, d_lst, d_tup, o_add, o_adds, o_sub, o_mul, o_fdiv, o_mod, o_pow, o_lt, o_le, o_gt, o_ge, o_eq, o_ne, o_isN, o_isnN, o_in, o_nin, x_fl, x_ft, x_fs, x_l, x_t, b_lens, b_lenl, b_lent, b_lenr, b_int, b_intb, b_abs, b_min, b_max, t_bl, t_int, t_lst, t_tup, t_non, n_int, z_fz, i_ii, i_bi, i_bb, i_ib, nn_int, nn_non, o_neb, o_eqb, l_lst, l_tup, l_int, k_ft, k_t, y_fl, y_l, a_ints, a_ll, a_fl, a_lf, a_ff, m_app, m_ext, s_lst, callD, takeA, putA, retOk, lendA, ioA, isFz, T.sh, T.shs, shE, D.imm, D.imms, rsvPt, evSet, subT, putT, storeG, st_n, st_t, sts_n, sts_c, allFz, allFzA, tupT, evMmP, evMm, lstAt, wipeT, ownsA, pickL, callSt, evT_lit, evT_sl, evT_gl, evT_op, evT_ch, evT_not, evT_and, evT_or, evT_ife, evT_neg, evT_ix, evT_b1, evT_b2, evT_isi, sizeLine_eq, Function.comp_def]⟩
  obtain ⟨cell, hc, e⟩ := st tb9
  refine ⟨_, go cell, ?_⟩
  rw [F_law_purse_eq]
  have z := purse_go h0 h1 hc tb9 e
  have z2 : evSs tb9 d_law_purse.b [some (.fz (.scr ns)), some (.fz (.int q)), none] = some (.ret (pur (maxZ 0 (absZ cell - 1000000000000000000)) ((cell * 30011 + q * 7368787 + 104729) % 1000000000000000000000007) 0) [some (.fz (.scr ns)), some (.fz (.int q)), some (.fz (.int cell))]) := z
  simp [denB, finS, List.range, List.range.loop, z2]
abbrev menu : List Int := [12, 30, 60, 72, 210, 420, 840, 2520, 5040, 4620, 4199, 4970, 5039, 4900, 3125, 4489, 4802]
theorem base_ok {k : Nat} {p : T} (h : Pu k p) (hk : k + 1 ≤ 2 ^ 60) : ∃ p' b, Pu (k + 2) p' ∧ 1 ≤ b ∧ b ≤ 5040 ∧ F_law_mk_base [p] = some (.ret (.fz (.int b)) [some p']) := by
  obtain ⟨p1, w, u1, w0, w1, e1⟩ := coin_ok h (by omega) (n := 4) (by decide) (by decide)
  rw [F_law_mk_base_eq]
  by_cases hw : w < 2
  · obtain ⟨m, hm0, hm1, em⟩ : ∃ m : Int, 0 < m ∧ m ≤ 5040 ∧ L2.atI [T.fz (.int 40), T.fz (.int 5040)] w = some (.fz (.int m)) := by
      obtain ⟨x, hx, e⟩ := at_i (ns := [40, 5040]) w0 hw
      refine ⟨x, ?_, ?_, e⟩ <;> (simp at hx; omega)
    obtain ⟨p2, r, u2, r0, r1, e2⟩ := coin_ok u1 (by omega) (n := m) hm0 (by omega)
    refine ⟨p2, 1 + r, u2, by omega, by omega, ?_⟩
    simp -implicitDefEqProofs [denB, finS, d_law_mk_base, Lw.at_2_0, Lw.at_2_1, Lw.at_3_2, Lw.at_6_4, Lw.at_6_5, Lw.at_7_4, Lw.at_12_10, Lw.at_14_10, Lw.at_14_13, Lw.at_15_10, Lw.at_15_14, Lw.at_17_16, Lw.at_19_3, Lw.at_19_6, Lw.at_19_7, Lw.at_19_8, Lw.at_19_10, Lw.at_19_11, Lw.at_19_12, Lw.at_19_15, Lw.at_19_17, Lw.at_19_18, Lw.at_20_9, Lw.at_20_19, e1, e2, hw, em, sizeLine_eq, List.range, List.range.loop, evV1, evKs, pR, fzsR, mvR, callR, callSR, callK0R, callKR, lcR, lc2R, evDs, seqD, DL.augR, mm1R, bfR, ioR, evE, evOe, evEs, evVs, evB, evBs, evI, evS, evSs, andR, orR, bR_ok, bR_ex, bR_no, bE_ok, bE_ex, bE_no, bF_nx, bF_ret, bF_bk, bF_ct, bF_ex, bF_no, oR_s, oR_n, evP, d_fz, d_lst, d_tup, o_add, o_adds, o_sub, o_mul, o_fdiv, o_mod, o_pow, o_lt, o_le, o_gt, o_ge, o_eq, o_ne, o_isN, o_isnN, o_in, o_nin, x_fl, x_ft, x_fs, x_l, x_t, b_lens, b_lenl, b_lent, b_lenr, b_int, b_intb, b_abs, b_min, b_max, t_bl, t_int, t_lst, t_tup, t_non, n_int, z_fz, i_ii, i_bi, i_bb, i_ib, nn_int, nn_non, o_neb, o_eqb, l_lst, l_tup, l_int, k_ft, k_t, y_fl, y_l, a_ints, a_ll, a_fl, a_lf, a_ff, m_app, m_ext, s_lst, callD, takeA, putA, retOk, lendA, ioA, isFz, T.sh, T.shs, shE, D.imm, D.imms, rsvPt, evSet, subT, putT, storeG, st_n, st_t, sts_n, sts_c, allFz, allFzA, tupT, evMmP, evMm, lstAt, wipeT, ownsA, pickL, callSt, evT_lit, evT_sl, evT_gl, evT_op, evT_ch, evT_not, evT_and, evT_or, evT_ife, evT_neg, evT_ix, evT_b1, evT_b2, evT_isi, sizeLine_eq, Function.comp_def]
  · obtain ⟨m, hm0, hm1, em⟩ : ∃ m : Int, 0 < m ∧ m ≤ 17 ∧ L2.atI [T.fz (.int 7), T.fz (.int 17)] (w - 2) = some (.fz (.int m)) := by
      obtain ⟨x, hx, e⟩ := at_i (ns := [7, 17]) (r := w - 2) (by omega) (by simp; omega)
      refine ⟨x, ?_, ?_, e⟩ <;> (simp at hx; omega)
    obtain ⟨p2, r, u2, r0, r1, e2⟩ := coin_ok u1 (by omega) (n := m) hm0 (by omega)
    obtain ⟨x, hx, e3⟩ := at_i (ns := menu) (r := r) r0 (by show r < 17; omega)
    have hx2 : 1 ≤ x ∧ x ≤ 5040 := (by decide : ∀ x ∈ menu, 1 ≤ x ∧ x ≤ 5040) x hx
    simp only [iT, menu, List.map] at e3
    refine ⟨p2, x, u2, hx2.1, hx2.2, ?_⟩
    simp -implicitDefEqProofs [denB, finS, d_law_mk_base, Lw.at_2_0, Lw.at_2_1, Lw.at_3_2, Lw.at_6_4, Lw.at_6_5, Lw.at_7_4, Lw.at_12_10, Lw.at_14_10, Lw.at_14_13, Lw.at_15_10, Lw.at_15_14, Lw.at_17_16, Lw.at_19_3, Lw.at_19_6, Lw.at_19_7, Lw.at_19_8, Lw.at_19_10, Lw.at_19_11, Lw.at_19_12, Lw.at_19_15, Lw.at_19_17, Lw.at_19_18, Lw.at_20_9, Lw.at_20_19, e1, e2, e3, hw, em, sizeLine_eq, List.range, List.range.loop, evV1, evKs, pR, fzsR, mvR, callR, callSR, callK0R, callKR, lcR, lc2R, evDs, seqD, DL.augR, mm1R, bfR, ioR, evE, evOe, evEs, evVs, evB, evBs, evI, evS, evSs, andR, orR, bR_ok, bR_ex, bR_no, bE_ok, bE_ex, bE_no, bF_nx, bF_ret, bF_bk, bF_ct, bF_ex, bF_no, oR_s, oR_n, evP, d_fz, d_lst, d_tup, o_add, o_adds, o_sub, o_mul, o_fdiv, o_mod, o_pow, o_lt, o_le, o_gt, o_ge, o_eq, o_ne, o_isN, o_isnN, o_in, o_nin, x_fl, x_ft, x_fs, x_l, x_t, b_lens, b_lenl, b_lent, b_lenr, b_int, b_intb, b_abs, b_min, b_max, t_bl, t_int, t_lst, t_tup, t_non, n_int, z_fz, i_ii, i_bi, i_bb, i_ib, nn_int, nn_non, o_neb, o_eqb, l_lst, l_tup, l_int, k_ft, k_t, y_fl, y_l, a_ints, a_ll, a_fl, a_lf, a_ff, m_app, m_ext, s_lst, callD, takeA, putA, retOk, lendA, ioA, isFz, T.sh, T.shs, shE, D.imm, D.imms, rsvPt, evSet, subT, putT, storeG, st_n, st_t, sts_n, sts_c, allFz, allFzA, tupT, evMmP, evMm, lstAt, wipeT, ownsA, pickL, callSt, evT_lit, evT_sl, evT_gl, evT_op, evT_ch, evT_not, evT_and, evT_or, evT_ife, evT_neg, evT_ix, evT_b1, evT_b2, evT_isi, sizeLine_eq, Function.comp_def]
theorem ediv_pos' {a b : Int} (ha : 1 ≤ a) (hb : 2 ≤ b) (hm : a % b = 0) : 1 ≤ a / b ∧ a / b ≤ a := by
  have h1 := Int.emod_add_mul_ediv a b
  rw [hm] at h1
  constructor
  · apply Classical.byContradiction
    intro h
    have h2 : a / b ≤ 0 := by omega
    have h3 : b * (a / b) ≤ 0 := Int.mul_nonpos_of_nonneg_of_nonpos (by omega) h2
    omega
  · exact Int.ediv_le_self b (by omega)
theorem primes_in {tb : List Cal} {b part : Int} {ts : T} {o : Option T} (b1 : 1 ≤ b) (b2 : b ≤ 5040) (p1 : 2 ≤ part) (p2 : part < 72) (n : Nat) :
    ∃ ρ', forF (stT (.n 3)) (evSs tb B_law_mk_primes_1) ((rg 0 n).map D.int) [some (.fz (.int b)), some ts, some (.fz (.int part)), o] = some (.nx ρ') ∧ ∃ b' o', 1 ≤ b' ∧ b' ≤ 5040 ∧ ρ' = [some (.fz (.int b')), some ts, some (.fz (.int part)), o'] := by
  refine for_ints (fun _ _ ρ' => ∃ b' o', 1 ≤ b' ∧ b' ≤ 5040 ∧ ρ' = [some (.fz (.int b')), some ts, some (.fz (.int part)), o']) ⟨b, o, b1, b2, rfl⟩ ?_
  rintro done n r ρ _ ⟨b', o', c1, c2, rfl⟩
  refine ⟨_, rfl, ?_⟩
  have dv : divB part = true := divB_le (by omega) (by omega)
  have pp : 0 < part := by omega
  by_cases h : b' % part = 0
  · obtain ⟨d1, d2⟩ := ediv_pos' c1 p1 h
    refine ⟨[some (.fz (.int (b' / part))), some ts, some (.fz (.int part)), some (.fz (.int n))], .inl ?_, _, _, d1, by omega, rfl⟩
    simp -implicitDefEqProofs [B_law_mk_primes_1, h, dv, pp, evV1, evKs, pR, fzsR, mvR, callR, callSR, callK0R, callKR, lcR, lc2R, evDs, seqD, DL.augR, mm1R, bfR, ioR, evE, evOe, evEs, evVs, evB, evBs, evI, evS, evSs, andR, orR, bR_ok, bR_ex, bR_no, bE_ok, bE_ex, bE_no, bF_nx, bF_ret, bF_bk, bF_ct, bF_ex, bF_no, oR_s, oR_n, evP, d_fz, d_lst, d_tup, o_add, o_adds, o_sub, o_mul, o_fdiv, o_mod, o_pow, o_lt, o_le, o_gt, o_ge, o_eq, o_ne, o_isN, o_isnN, o_in, o_nin, x_fl, x_ft, x_fs, x_l, x_t, b_lens, b_lenl, b_lent, b_lenr, b_int, b_intb, b_abs, b_min, b_max, t_bl, t_int, t_lst, t_tup, t_non, n_int, z_fz, i_ii, i_bi, i_bb, i_ib, nn_int, nn_non, o_neb, o_eqb, l_lst, l_tup, l_int, k_ft, k_t, y_fl, y_l, a_ints, a_ll, a_fl, a_lf, a_ff, m_app, m_ext, s_lst, callD, takeA, putA, retOk, lendA, ioA, isFz, T.sh, T.shs, shE, D.imm, D.imms, rsvPt, evSet, subT, putT, storeG, st_n, st_t, sts_n, sts_c, allFz, allFzA, tupT, evMmP, evMm, lstAt, wipeT, ownsA, pickL, callSt, evT_lit, evT_sl, evT_gl, evT_op, evT_ch, evT_not, evT_and, evT_or, evT_ife, evT_neg, evT_ix, evT_b1, evT_b2, evT_isi, sizeLine_eq, Function.comp_def]
  · refine ⟨[some (.fz (.int b')), some ts, some (.fz (.int part)), some (.fz (.int n))], .inl ?_, _, _, c1, c2, rfl⟩
    simp -implicitDefEqProofs [B_law_mk_primes_1, h, dv, pp, evV1, evKs, pR, fzsR, mvR, callR, callSR, callK0R, callKR, lcR, lc2R, evDs, seqD, DL.augR, mm1R, bfR, ioR, evE, evOe, evEs, evVs, evB, evBs, evI, evS, evSs, andR, orR, bR_ok, bR_ex, bR_no, bE_ok, bE_ex, bE_no, bF_nx, bF_ret, bF_bk, bF_ct, bF_ex, bF_no, oR_s, oR_n, evP, d_fz, d_lst, d_tup, o_add, o_adds, o_sub, o_mul, o_fdiv, o_mod, o_pow, o_lt, o_le, o_gt, o_ge, o_eq, o_ne, o_isN, o_isnN, o_in, o_nin, x_fl, x_ft, x_fs, x_l, x_t, b_lens, b_lenl, b_lent, b_lenr, b_int, b_intb, b_abs, b_min, b_max, t_bl, t_int, t_lst, t_tup, t_non, n_int, z_fz, i_ii, i_bi, i_bb, i_ib, nn_int, nn_non, o_neb, o_eqb, l_lst, l_tup, l_int, k_ft, k_t, y_fl, y_l, a_ints, a_ll, a_fl, a_lf, a_ff, m_app, m_ext, s_lst, callD, takeA, putA, retOk, lendA, ioA, isFz, T.sh, T.shs, shE, D.imm, D.imms, rsvPt, evSet, subT, putT, storeG, st_n, st_t, sts_n, sts_c, allFz, allFzA, tupT, evMmP, evMm, lstAt, wipeT, ownsA, pickL, callSt, evT_lit, evT_sl, evT_gl, evT_op, evT_ch, evT_not, evT_and, evT_or, evT_ife, evT_neg, evT_ix, evT_b1, evT_b2, evT_isi, sizeLine_eq, Function.comp_def]
theorem primes_ok {b : Int} (b1 : 1 ≤ b) (b2 : b ≤ 5040) : ∃ ns : List Int, (∀ x ∈ ns, 2 ≤ x ∧ x ≤ 5040) ∧ ns.length ≤ 71 ∧ F_law_mk_primes [.fz (.int b)] = some (.ret (.lst (iT ns)) [none]) := by
  have L : ∃ ρ', forF (stT (.n 2)) (evSs tb13 B_law_mk_primes_2) ((rg 2 70).map D.int) [some (.fz (.int b)), some (.lst []), none, none] = some (.nx ρ') ∧ ∃ b' ns o o', 1 ≤ b' ∧ b' ≤ 5040 ∧ (∀ x ∈ ns, 2 ≤ x ∧ x ≤ 5040) ∧ ns.length ≤ (rg 2 70).length ∧ ρ' = [some (.fz (.int b')), some (.lst (iT ns)), o, o'] := by
    refine for_ints (fun done _ ρ' => ∃ b' ns o o', 1 ≤ b' ∧ b' ≤ 5040 ∧ (∀ x ∈ ns, 2 ≤ x ∧ x ≤ 5040) ∧ ns.length ≤ done.length ∧ ρ' = [some (.fz (.int b')), some (.lst (iT ns)), o, o']) ⟨b, [], none, none, b1, b2, by simp, by simp, rfl⟩ ?_
    rintro done part r ρ e ⟨b', ns, o, o', c1, c2, c3, c4, rfl⟩
    have hp : part ∈ rg 2 70 := by rw [e]; simp
    obtain ⟨p1, p2⟩ := mem_rg.mp hp
    have hd : done.length ≤ 70 := by
      have := congrArg List.length e
      rw [rg_len, List.length_append] at this
      omega
    refine ⟨_, rfl, ?_⟩
    have pp : 0 < part := by omega
    by_cases h : b' % part = 0
    · obtain ⟨ρ', e1, b'', o'', d1, d2, rfl⟩ := primes_in (tb := tb13) (ts := .lst (iT (ns ++ [part]))) (o := o') c1 c2 p1 (by omega) 13
      refine ⟨_, .inl ?_, b'', ns ++ [part], some (.fz (.int part)), o'', d1, d2, ?_, ?_, rfl⟩
      · have r := r1 (j := 13) (by decide) (by decide)
        have sz : ns.length < 16777216 := by omega
        simp only [iT, List.map_append, List.map_cons, List.map_nil] at e1
        simp -implicitDefEqProofs [B_law_mk_primes_2, Mm, h, pp, r, sz, e1, evV1, evKs, pR, fzsR, mvR, callR, callSR, callK0R, callKR, lcR, lc2R, evDs, seqD, DL.augR, mm1R, bfR, ioR, evE, evOe, evEs, evVs, evB, evBs, evI, evS, evSs, andR, orR, bR_ok, bR_ex, bR_no, bE_ok, bE_ex, bE_no, bF_nx, bF_ret, bF_bk, bF_ct, bF_ex, bF_no, oR_s, oR_n, evP, d_fz, d_lst, d_tup, o_add, o_adds, o_sub, o_mul, o_fdiv, o_mod, o_pow, o_lt, o_le, o_gt, o_ge, o_eq, o_ne, o_isN, o_isnN, o_in, o_nin, x_fl, x_ft, x_fs, x_l, x_t, b_lens, b_lenl, b_lent, b_lenr, b_int, b_intb, b_abs, b_min, b_max, t_bl, t_int, t_lst, t_tup, t_non, n_int, z_fz, i_ii, i_bi, i_bb, i_ib, nn_int, nn_non, o_neb, o_eqb, l_lst, l_tup, l_int, k_ft, k_t, y_fl, y_l, a_ints, a_ll, a_fl, a_lf, a_ff, m_app, m_ext, s_lst, callD, takeA, putA, retOk, lendA, ioA, isFz, T.sh, T.shs, shE, D.imm, D.imms, rsvPt, evSet, subT, putT, storeG, st_n, st_t, sts_n, sts_c, allFz, allFzA, tupT, evMmP, evMm, lstAt, wipeT, ownsA, pickL, callSt, evT_lit, evT_sl, evT_gl, evT_op, evT_ch, evT_not, evT_and, evT_or, evT_ife, evT_neg, evT_ix, evT_b1, evT_b2, evT_isi, sizeLine_eq, Function.comp_def]
      · intro x hx
        rcases List.mem_append.mp hx with hx | hx
        · exact c3 x hx
        · rw [List.mem_singleton] at hx
          omega
      · rw [List.length_append, List.length_append]
        simp only [List.length_singleton]
        omega
    · refine ⟨[some (.fz (.int b')), some (.lst (iT ns)), some (.fz (.int part)), o'], .inl ?_, b', ns, _, o', c1, c2, c3, by rw [List.length_append]; omega, rfl⟩
      simp -implicitDefEqProofs [B_law_mk_primes_2, h, pp, evV1, evKs, pR, fzsR, mvR, callR, callSR, callK0R, callKR, lcR, lc2R, evDs, seqD, DL.augR, mm1R, bfR, ioR, evE, evOe, evEs, evVs, evB, evBs, evI, evS, evSs, andR, orR, bR_ok, bR_ex, bR_no, bE_ok, bE_ex, bE_no, bF_nx, bF_ret, bF_bk, bF_ct, bF_ex, bF_no, oR_s, oR_n, evP, d_fz, d_lst, d_tup, o_add, o_adds, o_sub, o_mul, o_fdiv, o_mod, o_pow, o_lt, o_le, o_gt, o_ge, o_eq, o_ne, o_isN, o_isnN, o_in, o_nin, x_fl, x_ft, x_fs, x_l, x_t, b_lens, b_lenl, b_lent, b_lenr, b_int, b_intb, b_abs, b_min, b_max, t_bl, t_int, t_lst, t_tup, t_non, n_int, z_fz, i_ii, i_bi, i_bb, i_ib, nn_int, nn_non, o_neb, o_eqb, l_lst, l_tup, l_int, k_ft, k_t, y_fl, y_l, a_ints, a_ll, a_fl, a_lf, a_ff, m_app, m_ext, s_lst, callD, takeA, putA, retOk, lendA, ioA, isFz, T.sh, T.shs, shE, D.imm, D.imms, rsvPt, evSet, subT, putT, storeG, st_n, st_t, sts_n, sts_c, allFz, allFzA, tupT, evMmP, evMm, lstAt, wipeT, ownsA, pickL, callSt, evT_lit, evT_sl, evT_gl, evT_op, evT_ch, evT_not, evT_and, evT_or, evT_ife, evT_neg, evT_ix, evT_b1, evT_b2, evT_isi, sizeLine_eq, Function.comp_def]
  obtain ⟨ρ', e1, b', ns, o, o', c1, c2, c3, c4, rfl⟩ := L
  rw [rg_len] at c4
  have r := r2 (i := 2) (j := 72) (by decide) (by decide) (by decide) (by decide)
  rw [F_law_mk_primes_eq]
  by_cases h : 1 < b'
  · refine ⟨ns ++ [b'], ?_, by rw [List.length_append, List.length_singleton]; omega, ?_⟩
    · intro x hx
      rcases List.mem_append.mp hx with hx | hx
      · exact c3 x hx
      · rw [List.mem_singleton] at hx
        omega
    · have sz : ns.length + 1 ≤ 16777216 := by omega
      simp -implicitDefEqProofs [denB, finS, d_law_mk_primes, List.range, List.range.loop, r, e1, h, sz, evV1, evKs, pR, fzsR, mvR, callR, callSR, callK0R, callKR, lcR, lc2R, evDs, seqD, DL.augR, mm1R, bfR, ioR, evE, evOe, evEs, evVs, evB, evBs, evI, evS, evSs, andR, orR, bR_ok, bR_ex, bR_no, bE_ok, bE_ex, bE_no, bF_nx, bF_ret, bF_bk, bF_ct, bF_ex, bF_no, oR_s, oR_n, evP, d_fz, d_lst, d_tup, o_add, o_adds, o_sub, o_mul, o_fdiv, o_mod, o_pow, o_lt, o_le, o_gt, o_ge, o_eq, o_ne, o_isN, o_isnN, o_in, o_nin, x_fl, x_ft, x_fs, x_l, x_t, b_lens, b_lenl, b_lent, b_lenr, b_int, b_intb, b_abs, b_min, b_max, t_bl, t_int, t_lst, t_tup, t_non, n_int, z_fz, i_ii, i_bi, i_bb, i_ib, nn_int, nn_non, o_neb, o_eqb, l_lst, l_tup, l_int, k_ft, k_t, y_fl, y_l, a_ints, a_ll, a_fl, a_lf, a_ff, m_app, m_ext, s_lst, callD, takeA, putA, retOk, lendA, ioA, isFz, T.sh, T.shs, shE, D.imm, D.imms, rsvPt, evSet, subT, putT, storeG, st_n, st_t, sts_n, sts_c, allFz, allFzA, tupT, evMmP, evMm, lstAt, wipeT, ownsA, pickL, callSt, evT_lit, evT_sl, evT_gl, evT_op, evT_ch, evT_not, evT_and, evT_or, evT_ife, evT_neg, evT_ix, evT_b1, evT_b2, evT_isi, sizeLine_eq, Function.comp_def]
  · refine ⟨ns, c3, by omega, ?_⟩
    simp -implicitDefEqProofs [denB, finS, d_law_mk_primes, List.range, List.range.loop, r, e1, h, evV1, evKs, pR, fzsR, mvR, callR, callSR, callK0R, callKR, lcR, lc2R, evDs, seqD, DL.augR, mm1R, bfR, ioR, evE, evOe, evEs, evVs, evB, evBs, evI, evS, evSs, andR, orR, bR_ok, bR_ex, bR_no, bE_ok, bE_ex, bE_no, bF_nx, bF_ret, bF_bk, bF_ct, bF_ex, bF_no, oR_s, oR_n, evP, d_fz, d_lst, d_tup, o_add, o_adds, o_sub, o_mul, o_fdiv, o_mod, o_pow, o_lt, o_le, o_gt, o_ge, o_eq, o_ne, o_isN, o_isnN, o_in, o_nin, x_fl, x_ft, x_fs, x_l, x_t, b_lens, b_lenl, b_lent, b_lenr, b_int, b_intb, b_abs, b_min, b_max, t_bl, t_int, t_lst, t_tup, t_non, n_int, z_fz, i_ii, i_bi, i_bb, i_ib, nn_int, nn_non, o_neb, o_eqb, l_lst, l_tup, l_int, k_ft, k_t, y_fl, y_l, a_ints, a_ll, a_fl, a_lf, a_ff, m_app, m_ext, s_lst, callD, takeA, putA, retOk, lendA, ioA, isFz, T.sh, T.shs, shE, D.imm, D.imms, rsvPt, evSet, subT, putT, storeG, st_n, st_t, sts_n, sts_c, allFz, allFzA, tupT, evMmP, evMm, lstAt, wipeT, ownsA, pickL, callSt, evT_lit, evT_sl, evT_gl, evT_op, evT_ch, evT_not, evT_and, evT_or, evT_ife, evT_neg, evT_ix, evT_b1, evT_b2, evT_isi, sizeLine_eq, Function.comp_def]
theorem part_in {k : Nat} {p : T} {ob : Option T} {f pr : Int} {o : Option T} (h : Pu k p) (hk : k + 12 ≤ 2 ^ 60) (f1 : 1 ≤ f) (f2 : f ≤ 5040) (p1 : 2 ≤ pr) (p2 : pr ≤ 5040) :
    ∃ ρ', forF (stT (.n 4)) (evSs tb14 B_law_mk_part_1) ((rg 0 12).map D.int) [some p, ob, some (.fz (.int f)), some (.fz (.int pr)), o] = some (.nx ρ') ∧
      ∃ p' f' o', Pu (k + (rg 0 12).length) p' ∧ 1 ≤ f' ∧ f' ≤ f ∧ ρ' = [some p', ob, some (.fz (.int f')), some (.fz (.int pr)), o'] := by
  refine for_ints (fun done _ ρ' => ∃ p' f' o', Pu (k + done.length) p' ∧ 1 ≤ f' ∧ f' ≤ f ∧ ρ' = [some p', ob, some (.fz (.int f')), some (.fz (.int pr)), o']) ⟨p, f, o, h, f1, Int.le_refl _, rfl⟩ ?_
  rintro done n r ρ e ⟨p', f', o', u, g1, g2, rfl⟩
  have hd : done.length + 1 ≤ 12 := by
    have := congrArg List.length e
    rw [rg_len, List.length_append, List.length_cons] at this
    omega
  refine ⟨_, rfl, ?_⟩
  have dv : divB pr = true := divB_le (by omega) (by omega)
  have pp : 0 < pr := by omega
  by_cases hm : f' % pr = 0
  · obtain ⟨p'', w, u2, w0, w1, e1⟩ := coin_ok u (by omega) (n := 2) (by decide) (by decide)
    have u3 : Pu (k + (done ++ [n]).length) p'' := u2.up (by rw [List.length_append, List.length_singleton]; omega)
    obtain ⟨d1, d2⟩ := ediv_pos' g1 p1 hm
    by_cases hw : w = 0
    · refine ⟨[some p'', ob, some (.fz (.int (f' / pr))), some (.fz (.int pr)), some (.fz (.int n))], .inl ?_, _, _, _, u3, d1, by omega, rfl⟩
      subst hw
      simp -implicitDefEqProofs [B_law_mk_part_1, hm, dv, pp, Lw.at_2_0, Lw.at_2_1, Lw.at_3_2, Lw.at_6_4, Lw.at_6_5, Lw.at_7_4, Lw.at_12_10, Lw.at_14_10, Lw.at_14_13, Lw.at_15_10, Lw.at_15_14, Lw.at_17_16, Lw.at_19_3, Lw.at_19_6, Lw.at_19_7, Lw.at_19_8, Lw.at_19_10, Lw.at_19_11, Lw.at_19_12, Lw.at_19_15, Lw.at_19_17, Lw.at_19_18, Lw.at_20_9, Lw.at_20_19, e1, evV1, evKs, pR, fzsR, mvR, callR, callSR, callK0R, callKR, lcR, lc2R, evDs, seqD, DL.augR, mm1R, bfR, ioR, evE, evOe, evEs, evVs, evB, evBs, evI, evS, evSs, andR, orR, bR_ok, bR_ex, bR_no, bE_ok, bE_ex, bE_no, bF_nx, bF_ret, bF_bk, bF_ct, bF_ex, bF_no, oR_s, oR_n, evP, d_fz, d_lst, d_tup, o_add, o_adds, o_sub, o_mul, o_fdiv, o_mod, o_pow, o_lt, o_le, o_gt, o_ge, o_eq, o_ne, o_isN, o_isnN, o_in, o_nin, x_fl, x_ft, x_fs, x_l, x_t, b_lens, b_lenl, b_lent, b_lenr, b_int, b_intb, b_abs, b_min, b_max, t_bl, t_int, t_lst, t_tup, t_non, n_int, z_fz, i_ii, i_bi, i_bb, i_ib, nn_int, nn_non, o_neb, o_eqb, l_lst, l_tup, l_int, k_ft, k_t, y_fl, y_l, a_ints, a_ll, a_fl, a_lf, a_ff, m_app, m_ext, s_lst, callD, takeA, putA, retOk, lendA, ioA, isFz, T.sh, T.shs, shE, D.imm, D.imms, rsvPt, evSet, subT, putT, storeG, st_n, st_t, sts_n, sts_c, allFz, allFzA, tupT, evMmP, evMm, lstAt, wipeT, ownsA, pickL, callSt, evT_lit, evT_sl, evT_gl, evT_op, evT_ch, evT_not, evT_and, evT_or, evT_ife, evT_neg, evT_ix, evT_b1, evT_b2, evT_isi, sizeLine_eq, Function.comp_def]
    · refine ⟨[some p'', ob, some (.fz (.int f')), some (.fz (.int pr)), some (.fz (.int n))], .inl ?_, _, _, _, u3, g1, g2, rfl⟩
      simp -implicitDefEqProofs [B_law_mk_part_1, hm, dv, pp, Lw.at_2_0, Lw.at_2_1, Lw.at_3_2, Lw.at_6_4, Lw.at_6_5, Lw.at_7_4, Lw.at_12_10, Lw.at_14_10, Lw.at_14_13, Lw.at_15_10, Lw.at_15_14, Lw.at_17_16, Lw.at_19_3, Lw.at_19_6, Lw.at_19_7, Lw.at_19_8, Lw.at_19_10, Lw.at_19_11, Lw.at_19_12, Lw.at_19_15, Lw.at_19_17, Lw.at_19_18, Lw.at_20_9, Lw.at_20_19, e1, hw, evV1, evKs, pR, fzsR, mvR, callR, callSR, callK0R, callKR, lcR, lc2R, evDs, seqD, DL.augR, mm1R, bfR, ioR, evE, evOe, evEs, evVs, evB, evBs, evI, evS, evSs, andR, orR, bR_ok, bR_ex, bR_no, bE_ok, bE_ex, bE_no, bF_nx, bF_ret, bF_bk, bF_ct, bF_ex, bF_no, oR_s, oR_n, evP, d_fz, d_lst, d_tup, o_add, o_adds, o_sub, o_mul, o_fdiv, o_mod, o_pow, o_lt, o_le, o_gt, o_ge, o_eq, o_ne, o_isN, o_isnN, o_in, o_nin, x_fl, x_ft, x_fs, x_l, x_t, b_lens, b_lenl, b_lent, b_lenr, b_int, b_intb, b_abs, b_min, b_max, t_bl, t_int, t_lst, t_tup, t_non, n_int, z_fz, i_ii, i_bi, i_bb, i_ib, nn_int, nn_non, o_neb, o_eqb, l_lst, l_tup, l_int, k_ft, k_t, y_fl, y_l, a_ints, a_ll, a_fl, a_lf, a_ff, m_app, m_ext, s_lst, callD, takeA, putA, retOk, lendA, ioA, isFz, T.sh, T.shs, shE, D.imm, D.imms, rsvPt, evSet, subT, putT, storeG, st_n, st_t, sts_n, sts_c, allFz, allFzA, tupT, evMmP, evMm, lstAt, wipeT, ownsA, pickL, callSt, evT_lit, evT_sl, evT_gl, evT_op, evT_ch, evT_not, evT_and, evT_or, evT_ife, evT_neg, evT_ix, evT_b1, evT_b2, evT_isi, sizeLine_eq, Function.comp_def]
  · refine ⟨[some p', ob, some (.fz (.int f')), some (.fz (.int pr)), some (.fz (.int n))], .inl ?_, _, _, _, u.up (by rw [List.length_append, List.length_singleton]; omega), g1, g2, rfl⟩
    simp -implicitDefEqProofs [B_law_mk_part_1, hm, dv, pp, evV1, evKs, pR, fzsR, mvR, callR, callSR, callK0R, callKR, lcR, lc2R, evDs, seqD, DL.augR, mm1R, bfR, ioR, evE, evOe, evEs, evVs, evB, evBs, evI, evS, evSs, andR, orR, bR_ok, bR_ex, bR_no, bE_ok, bE_ex, bE_no, bF_nx, bF_ret, bF_bk, bF_ct, bF_ex, bF_no, oR_s, oR_n, evP, d_fz, d_lst, d_tup, o_add, o_adds, o_sub, o_mul, o_fdiv, o_mod, o_pow, o_lt, o_le, o_gt, o_ge, o_eq, o_ne, o_isN, o_isnN, o_in, o_nin, x_fl, x_ft, x_fs, x_l, x_t, b_lens, b_lenl, b_lent, b_lenr, b_int, b_intb, b_abs, b_min, b_max, t_bl, t_int, t_lst, t_tup, t_non, n_int, z_fz, i_ii, i_bi, i_bb, i_ib, nn_int, nn_non, o_neb, o_eqb, l_lst, l_tup, l_int, k_ft, k_t, y_fl, y_l, a_ints, a_ll, a_fl, a_lf, a_ff, m_app, m_ext, s_lst, callD, takeA, putA, retOk, lendA, ioA, isFz, T.sh, T.shs, shE, D.imm, D.imms, rsvPt, evSet, subT, putT, storeG, st_n, st_t, sts_n, sts_c, allFz, allFzA, tupT, evMmP, evMm, lstAt, wipeT, ownsA, pickL, callSt, evT_lit, evT_sl, evT_gl, evT_op, evT_ch, evT_not, evT_and, evT_or, evT_ife, evT_neg, evT_ix, evT_b1, evT_b2, evT_isi, sizeLine_eq, Function.comp_def]
theorem part_ok {k : Nat} {p : T} {b : Int} (h : Pu k p) (hk : k + 900 ≤ 2 ^ 60) (b1 : 1 ≤ b) (b2 : b ≤ 5040) : ∃ p' s, Pu (k + 900) p' ∧ 1 ≤ s ∧ s ≤ b ∧ F_law_mk_part [p, .fz (.int b)] = some (.ret (.fz (.int s)) [some p', none]) := by
  obtain ⟨ns, hn, hl, e0⟩ := primes_ok b1 b2
  have L : ∃ ρ', forF (stT (.n 3)) (evSs tb14 B_law_mk_part_2) (ns.map D.int) [some p, some (.fz (.int b)), some (.fz (.int b)), none, none] = some (.nx ρ') ∧
      ∃ p' f' o o', Pu (k + 12 * ns.length) p' ∧ 1 ≤ f' ∧ f' ≤ b ∧ ρ' = [some p', some (.fz (.int b)), some (.fz (.int f')), o, o'] := by
    refine for_ints (fun done _ ρ' => ∃ p' f' o o', Pu (k + 12 * done.length) p' ∧ 1 ≤ f' ∧ f' ≤ b ∧ ρ' = [some p', some (.fz (.int b)), some (.fz (.int f')), o, o']) ⟨p, b, none, none, h, b1, Int.le_refl _, rfl⟩ ?_
    rintro done n r ρ e ⟨p', f', o, o', u, g1, g2, rfl⟩
    have hd : done.length + 1 ≤ ns.length := by
      have := congrArg List.length e
      rw [List.length_append, List.length_cons] at this
      omega
    have hn2 := hn n (by rw [e]; simp)
    refine ⟨_, rfl, ?_⟩
    obtain ⟨ρ', e1, p'', f'', o'', u2, c1, c2, rfl⟩ := part_in (ob := some (.fz (.int b))) (o := o') u (by omega) g1 (by omega) hn2.1 hn2.2
    rw [rg_len] at u2
    refine ⟨_, .inl ?_, p'', f'', some (.fz (.int n)), o'', u2.up (by rw [List.length_append, List.length_singleton]; omega), c1, by omega, rfl⟩
    have r := r1 (j := 12) (by decide) (by decide)
    simp -implicitDefEqProofs [B_law_mk_part_2, r, e1, evV1, evKs, pR, fzsR, mvR, callR, callSR, callK0R, callKR, lcR, lc2R, evDs, seqD, DL.augR, mm1R, bfR, ioR, evE, evOe, evEs, evVs, evB, evBs, evI, evS, evSs, andR, orR, bR_ok, bR_ex, bR_no, bE_ok, bE_ex, bE_no, bF_nx, bF_ret, bF_bk, bF_ct, bF_ex, bF_no, oR_s, oR_n, evP, d_fz, d_lst, d_tup, o_add, o_adds, o_sub, o_mul, o_fdiv, o_mod, o_pow, o_lt, o_le, o_gt, o_ge, o_eq, o_ne, o_isN, o_isnN, o_in, o_nin, x_fl, x_ft, x_fs, x_l, x_t, b_lens, b_lenl, b_lent, b_lenr, b_int, b_intb, b_abs, b_min, b_max, t_bl, t_int, t_lst, t_tup, t_non, n_int, z_fz, i_ii, i_bi, i_bb, i_ib, nn_int, nn_non, o_neb, o_eqb, l_lst, l_tup, l_int, k_ft, k_t, y_fl, y_l, a_ints, a_ll, a_fl, a_lf, a_ff, m_app, m_ext, s_lst, callD, takeA, putA, retOk, lendA, ioA, isFz, T.sh, T.shs, shE, D.imm, D.imms, rsvPt, evSet, subT, putT, storeG, st_n, st_t, sts_n, sts_c, allFz, allFzA, tupT, evMmP, evMm, lstAt, wipeT, ownsA, pickL, callSt, evT_lit, evT_sl, evT_gl, evT_op, evT_ch, evT_not, evT_and, evT_or, evT_ife, evT_neg, evT_ix, evT_b1, evT_b2, evT_isi, sizeLine_eq, Function.comp_def]
  obtain ⟨ρ', e1, p', f', o, o', u, c1, c2, rfl⟩ := L
  refine ⟨p', f', u.up (by omega), c1, c2, ?_⟩
  rw [F_law_mk_part_eq]
  simp -implicitDefEqProofs [denB, finS, d_law_mk_part, List.range, List.range.loop, Lw.at_2_0, Lw.at_2_1, Lw.at_3_2, Lw.at_6_4, Lw.at_6_5, Lw.at_7_4, Lw.at_12_10, Lw.at_14_10, Lw.at_14_13, Lw.at_15_10, Lw.at_15_14, Lw.at_17_16, Lw.at_19_3, Lw.at_19_6, Lw.at_19_7, Lw.at_19_8, Lw.at_19_10, Lw.at_19_11, Lw.at_19_12, Lw.at_19_15, Lw.at_19_17, Lw.at_19_18, Lw.at_20_9, Lw.at_20_19, e0, e1, evV1, evKs, pR, fzsR, mvR, callR, callSR, callK0R, callKR, lcR, lc2R, evDs, seqD, DL.augR, mm1R, bfR, ioR, evE, evOe, evEs, evVs, evB, evBs, evI, evS, evSs, andR, orR, bR_ok, bR_ex, bR_no, bE_ok, bE_ex, bE_no, bF_nx, bF_ret, bF_bk, bF_ct, bF_ex, bF_no, oR_s, oR_n, evP, d_fz, d_lst, d_tup, o_add, o_adds, o_sub, o_mul, o_fdiv, o_mod, o_pow, o_lt, o_le, o_gt, o_ge, o_eq, o_ne, o_isN, o_isnN, o_in, o_nin, x_fl, x_ft, x_fs, x_l, x_t, b_lens, b_lenl, b_lent, b_lenr, b_int, b_intb, b_abs, b_min, b_max, t_bl, t_int, t_lst, t_tup, t_non, n_int, z_fz, i_ii, i_bi, i_bb, i_ib, nn_int, nn_non, o_neb, o_eqb, l_lst, l_tup, l_int, k_ft, k_t, y_fl, y_l, a_ints, a_ll, a_fl, a_lf, a_ff, m_app, m_ext, s_lst, callD, takeA, putA, retOk, lendA, ioA, isFz, T.sh, T.shs, shE, D.imm, D.imms, rsvPt, evSet, subT, putT, storeG, st_n, st_t, sts_n, sts_c, allFz, allFzA, tupT, evMmP, evMm, lstAt, wipeT, ownsA, pickL, callSt, evT_lit, evT_sl, evT_gl, evT_op, evT_ch, evT_not, evT_and, evT_or, evT_ife, evT_neg, evT_ix, evT_b1, evT_b2, evT_isi, sizeLine_eq, Function.comp_def]
end Lw
namespace Lw
open PySem DL
/-! ### lots -/
abbrev lotD (e : Int) (ns : List Int) : D := .tup [.int e, .lst (ns.map D.int)]
structure Lot (e : Int) (ns : List Int) : Prop where
  e1 : 1 ≤ e
  e2 : e ≤ 5040
  asc : ns.Pairwise (· < ·)
  rng : ∀ x ∈ ns, 0 ≤ x ∧ x < e
theorem Lot.len {e : Int} {ns : List Int} (l : Lot e ns) : ns.length ≤ 5040 := by
  have := len_lt (by have := l.e1; omega) l.asc l.rng
  have := l.e2
  omega
theorem check_lots_ok {e : Int} {ns : List Int} (l : Lot e ns) : F_check_lots [.fz (.tup [lotD e ns])] = some (.ret (.fz .non) [none]) := by
  have l1 := l.e1
  have ln := l.len
  have C1 : lcF (stT (.t (.cons (.n 4) (.cons (.n 5) .nil)))) (evBs tb4 CT_check_lots_1) (evE tb4 CE_check_lots_1) [4, 5] ((ns.zip ns.tail).map fun p => D.tup [.int p.1, .int p.2]) [none, some (.fz (.int e)), some (.fz (.lst (ns.map D.int))), none, none, none, none] [] =
      some (.ok ((ns.zip ns.tail).map fun p => .fz (.bl (decide (p.1 < p.2)))) [none, some (.fz (.int e)), some (.fz (.lst (ns.map D.int))), none, none, none, none]) :=
    lc_m (em := fun p : Int × Int => D.tup [.int p.1, .int p.2]) _ rfl _ (by rw [List.length_zip]; omega) fun x _ => ⟨[none, some (.fz (.int e)), some (.fz (.lst (ns.map D.int))), none, some (.fz (.int x.1)), some (.fz (.int x.2)), none], rfl, rfl, rfl, rfl⟩
  have C2 : lcF (stT (.n 6)) (evBs tb4 CT_check_lots_2) (evE tb4 CE_check_lots_2) [6] (ns.map D.int) [none, some (.fz (.int e)), some (.fz (.lst (ns.map D.int))), some (.fz (.bl true)), none, none, none] [] =
      some (.ok (ns.map fun x => .fz (.bl true)) [none, some (.fz (.int e)), some (.fz (.lst (ns.map D.int))), some (.fz (.bl true)), none, none, none]) :=
    lc_m (em := D.int) _ rfl ns (by omega) fun x hx => ⟨[none, some (.fz (.int e)), some (.fz (.lst (ns.map D.int))), some (.fz (.bl true)), none, none, some (.fz (.int x))], rfl, rfl, rfl, by
      obtain ⟨x0, x1⟩ := l.rng x hx
      simp -implicitDefEqProofs [CE_check_lots_2, x0, x1, evV1, evKs, pR, fzsR, mvR, callR, callSR, callK0R, callKR, lcR, lc2R, evDs, seqD, DL.augR, mm1R, bfR, ioR, evE, evOe, evEs, evVs, evB, evBs, evI, evS, evSs, andR, orR, bR_ok, bR_ex, bR_no, bE_ok, bE_ex, bE_no, bF_nx, bF_ret, bF_bk, bF_ct, bF_ex, bF_no, oR_s, oR_n, evP, d_fz, d_lst, d_tup, o_add, o_adds, o_sub, o_mul, o_fdiv, o_mod, o_pow, o_lt, o_le, o_gt, o_ge, o_eq, o_ne, o_isN, o_isnN, o_in, o_nin, x_fl, x_ft, x_fs, x_l, x_t, b_lens, b_lenl, b_lent, b_lenr, b_int, b_intb, b_abs, b_min, b_max, t_bl, t_int, t_lst, t_tup, t_non, n_int, z_fz, i_ii, i_bi, i_bb, i_ib, nn_int, nn_non, o_neb, o_eqb, l_lst, l_tup, l_int, k_ft, k_t, y_fl, y_l, a_ints, a_ll, a_fl, a_lf, a_ff, m_app, m_ext, s_lst, callD, takeA, putA, retOk, lendA, ioA, isFz, T.sh, T.shs, shE, D.imm, D.imms, rsvPt, evSet, subT, putT, storeG, st_n, st_t, sts_n, sts_c, allFz, allFzA, tupT, evMmP, evMm, lstAt, wipeT, ownsA, pickL, callSt, evT_lit, evT_sl, evT_gl, evT_op, evT_ch, evT_not, evT_and, evT_or, evT_ife, evT_neg, evT_ix, evT_b1, evT_b2, evT_isi, sizeLine_eq, Function.comp_def]⟩
  have A1 : bfT .all [.lst ((ns.zip ns.tail).map fun p => T.fz (.bl (decide (p.1 < p.2))))] = some (.fz (.bl true)) := by
    have z := bf_allL ((ns.zip ns.tail).map fun p => decide (p.1 < p.2))
    simp only [bT, List.map_map, Function.comp_def] at z
    rw [z]
    congr 3
    rw [List.all_map, List.all_eq_true]
    intro p hp
    simpa using asc_adj l.asc p hp
  have A2 : bfT .all [.lst (ns.map fun _ => T.fz (.bl true))] = some (.fz (.bl true)) := by
    have z := bf_allL (ns.map fun _ => true)
    simp only [bT, List.map_map, Function.comp_def] at z
    rw [z]
    congr 3
    rw [List.all_map, List.all_eq_true]
    intro p hp
    rfl
  have Z : zipL (ns.map fun x => D.int x) (ns.map fun x => D.int x).tail = (ns.zip ns.tail).map fun p => D.tup [.int p.1, .int p.2] := by
    rw [← List.map_tail]
    exact zip_i ns ns.tail
  have sl : ∀ x, sliceT (.fz (.lst (ns.map D.int))) (some 1) none = x ↔ some (.lst (ns.tail.map fun n => T.fz (.int n))) = x := by
    intro x
    rw [sl_f, cut_1]
    simp [Function.comp_def]
  have sl2 : sliceT (.fz (.lst (ns.map D.int))) (some 1) none = some (.lst (ns.tail.map fun n => T.fz (.int n))) := ((sl _).mpr rfl)
  rw [F_check_lots_eq]
  have e1 : ¬ e < 1 := by omega
  simp -implicitDefEqProofs [denB, finS, d_check_lots, List.range, List.range.loop, forF, B_check_lots_1, sl2, zip_l, Z, C1, C2, A1, A2, e1, evV1, evKs, pR, fzsR, mvR, callR, callSR, callK0R, callKR, lcR, lc2R, evDs, seqD, DL.augR, mm1R, bfR, ioR, evE, evOe, evEs, evVs, evB, evBs, evI, evS, evSs, andR, orR, bR_ok, bR_ex, bR_no, bE_ok, bE_ex, bE_no, bF_nx, bF_ret, bF_bk, bF_ct, bF_ex, bF_no, oR_s, oR_n, evP, d_fz, d_lst, d_tup, o_add, o_adds, o_sub, o_mul, o_fdiv, o_mod, o_pow, o_lt, o_le, o_gt, o_ge, o_eq, o_ne, o_isN, o_isnN, o_in, o_nin, x_fl, x_ft, x_fs, x_l, x_t, b_lens, b_lenl, b_lent, b_lenr, b_int, b_intb, b_abs, b_min, b_max, t_bl, t_int, t_lst, t_tup, t_non, n_int, z_fz, i_ii, i_bi, i_bb, i_ib, nn_int, nn_non, o_neb, o_eqb, l_lst, l_tup, l_int, k_ft, k_t, y_fl, y_l, a_ints, a_ll, a_fl, a_lf, a_ff, m_app, m_ext, s_lst, callD, takeA, putA, retOk, lendA, ioA, isFz, T.sh, T.shs, shE, D.imm, D.imms, rsvPt, evSet, subT, putT, storeG, st_n, st_t, sts_n, sts_c, allFz, allFzA, tupT, evMmP, evMm, lstAt, wipeT, ownsA, pickL, callSt, evT_lit, evT_sl, evT_gl, evT_op, evT_ch, evT_not, evT_and, evT_or, evT_ife, evT_neg, evT_ix, evT_b1, evT_b2, evT_isi, sizeLine_eq, Function.comp_def]
theorem isint_ok (i : Int) : F_law_mk_is_integer [.fz (.int i)] = some (.ret (.fz (.bl true)) [none]) := by
  rw [F_law_mk_is_integer_eq]
  simp -implicitDefEqProofs [denB, finS, d_law_mk_is_integer, List.range, List.range.loop, evV1, evKs, pR, fzsR, mvR, callR, callSR, callK0R, callKR, lcR, lc2R, evDs, seqD, DL.augR, mm1R, bfR, ioR, evE, evOe, evEs, evVs, evB, evBs, evI, evS, evSs, andR, orR, bR_ok, bR_ex, bR_no, bE_ok, bE_ex, bE_no, bF_nx, bF_ret, bF_bk, bF_ct, bF_ex, bF_no, oR_s, oR_n, evP, d_fz, d_lst, d_tup, o_add, o_adds, o_sub, o_mul, o_fdiv, o_mod, o_pow, o_lt, o_le, o_gt, o_ge, o_eq, o_ne, o_isN, o_isnN, o_in, o_nin, x_fl, x_ft, x_fs, x_l, x_t, b_lens, b_lenl, b_lent, b_lenr, b_int, b_intb, b_abs, b_min, b_max, t_bl, t_int, t_lst, t_tup, t_non, n_int, z_fz, i_ii, i_bi, i_bb, i_ib, nn_int, nn_non, o_neb, o_eqb, l_lst, l_tup, l_int, k_ft, k_t, y_fl, y_l, a_ints, a_ll, a_fl, a_lf, a_ff, m_app, m_ext, s_lst, callD, takeA, putA, retOk, lendA, ioA, isFz, T.sh, T.shs, shE, D.imm, D.imms, rsvPt, evSet, subT, putT, storeG, st_n, st_t, sts_n, sts_c, allFz, allFzA, tupT, evMmP, evMm, lstAt, wipeT, ownsA, pickL, callSt, evT_lit, evT_sl, evT_gl, evT_op, evT_ch, evT_not, evT_and, evT_or, evT_ife, evT_neg, evT_ix, evT_b1, evT_b2, evT_isi, sizeLine_eq, Function.comp_def]
end Lw
namespace Lw
open PySem DL
/-- draws in a comprehension -/
theorem draws1 {k : Nat} {p : T} {b : Int} {w : Option T} (h : Pu k p) (hk : k + 13 ≤ 2 ^ 60) : ∃ (p' : T) (ms : List Int), Pu (k + 13) p' ∧ (∀ m ∈ ms, 0 ≤ m ∧ m < 2) ∧ ms.length = 13 ∧
    lcF (stT (.n 7)) (evBs tb15 CT_law_mk_leaves_1) (evE tb15 CE_law_mk_leaves_1) [7] ((rg 0 13).map D.int) [some p, some (.fz (.int b)), none, none, none, none, none, none, none] [] = some (.ok (ms.map fun n => .fz (.int n)) [some p', some (.fz (.int b)), none, none, none, none, none, none, none]) := by
  have Q := lc_inv (st := stT (.n 7)) (ft := evBs tb15 CT_law_mk_leaves_1) (fe := evE tb15 CE_law_mk_leaves_1) (vs := [7])
    (fun ds ρ acc => ∃ (p' : T) (ms : List Int), Pu (k + ms.length) p' ∧ ρ = [some p', some (.fz (.int b)), none, none, none, none, none, none, none] ∧ acc = ms.map (fun n : Int => T.fz (.int n)) ∧ (∀ m ∈ ms, 0 ≤ m ∧ m < 2) ∧ ms.length + ds.length = 13) ?st ((rg 0 13).map D.int) [some p, some (.fz (.int b)), none, none, none, none, none, none, none] [] ⟨p, [], h, rfl, rfl, by simp, by simp [rg_len]⟩
  case st =>
    rintro d r ρ acc ⟨p', ms, u, rfl, rfl, hm, hl⟩
    rw [List.length_cons] at hl
    obtain ⟨p'', x, u2, x0, x1, e1⟩ := coin_ok u (by omega) (n := 2) (by decide) (by decide)
    refine ⟨[some p', some (.fz (.int b)), none, none, none, none, none, some (.fz d), none], [some p', some (.fz (.int b)), none, none, none, none, none, some (.fz d), none], true, rfl, rfl, (fun z => nomatch z), fun _ => ⟨.fz (.int x), [some p'', some (.fz (.int b)), none, none, none, none, none, some (.fz d), none], ?_, by rw [sizeLine_eq, List.length_map]; omega, p'', ms ++ [x], by rw [List.length_append]; exact u2, rfl, by simp, ?_, by simp; omega⟩⟩
    · simp -implicitDefEqProofs [CE_law_mk_leaves_1, Lw.at_2_0, Lw.at_2_1, Lw.at_3_2, Lw.at_6_4, Lw.at_6_5, Lw.at_7_4, Lw.at_12_10, Lw.at_14_10, Lw.at_14_13, Lw.at_15_10, Lw.at_15_14, Lw.at_17_16, Lw.at_19_3, Lw.at_19_6, Lw.at_19_7, Lw.at_19_8, Lw.at_19_10, Lw.at_19_11, Lw.at_19_12, Lw.at_19_15, Lw.at_19_17, Lw.at_19_18, Lw.at_20_9, Lw.at_20_19, e1, evV1, evKs, pR, fzsR, mvR, callR, callSR, callK0R, callKR, lcR, lc2R, evDs, seqD, DL.augR, mm1R, bfR, ioR, evE, evOe, evEs, evVs, evB, evBs, evI, evS, evSs, andR, orR, bR_ok, bR_ex, bR_no, bE_ok, bE_ex, bE_no, bF_nx, bF_ret, bF_bk, bF_ct, bF_ex, bF_no, oR_s, oR_n, evP, d_fz, d_lst, d_tup, o_add, o_adds, o_sub, o_mul, o_fdiv, o_mod, o_pow, o_lt, o_le, o_gt, o_ge, o_eq, o_ne, o_isN, o_isnN, o_in, o_nin, x_fl, x_ft, x_fs, x_l, x_t, b_lens, b_lenl, b_lent, b_lenr, b_int, b_intb, b_abs, b_min, b_max, t_bl, t_int, t_lst, t_tup, t_non, n_int, z_fz, i_ii, i_bi, i_bb, i_ib, nn_int, nn_non, o_neb, o_eqb, l_lst, l_tup, l_int, k_ft, k_t, y_fl, y_l, a_ints, a_ll, a_fl, a_lf, a_ff, m_app, m_ext, s_lst, callD, takeA, putA, retOk, lendA, ioA, isFz, T.sh, T.shs, shE, D.imm, D.imms, rsvPt, evSet, subT, putT, storeG, st_n, st_t, sts_n, sts_c, allFz, allFzA, tupT, evMmP, evMm, lstAt, wipeT, ownsA, pickL, callSt, evT_lit, evT_sl, evT_gl, evT_op, evT_ch, evT_not, evT_and, evT_or, evT_ife, evT_neg, evT_ix, evT_b1, evT_b2, evT_isi, sizeLine_eq, Function.comp_def]
    · intro m hm'
      rcases List.mem_append.mp hm' with hm' | hm'
      · exact hm m hm'
      · rw [List.mem_singleton] at hm'
        omega
  obtain ⟨acc', ρ', e, p', ms, u, rfl, rfl, hm, hl⟩ := Q
  · have hl' : ms.length = 13 := by simpa using hl
    exact ⟨p', ms, by rw [← hl']; exact u, hm, hl', e⟩
theorem draws2 {k : Nat} {p : T} {b : Int} {w y : Option T} (b1 : 1 ≤ b) (b2 : b ≤ 5040) (h : Pu k p) (n : Nat) (hk : k + n ≤ 2 ^ 60) (hn : n ≤ 16777216) : ∃ (p' : T) (ms : List Int), Pu (k + n) p' ∧ (∀ m ∈ ms, 0 ≤ m ∧ m < b) ∧ ms.length = n ∧
    lcF (stT (.n 7)) (evBs tb15 CT_law_mk_leaves_2) (evE tb15 CE_law_mk_leaves_2) [7] ((rg 0 n).map D.int) [some p, some (.fz (.int b)), none, w, y, none, none, none, none] [] = some (.ok (ms.map fun n => .fz (.int n)) [some p', some (.fz (.int b)), none, w, y, none, none, none, none]) := by
  have Q := lc_inv (st := stT (.n 7)) (ft := evBs tb15 CT_law_mk_leaves_2) (fe := evE tb15 CE_law_mk_leaves_2) (vs := [7])
    (fun ds ρ acc => ∃ (p' : T) (ms : List Int), Pu (k + ms.length) p' ∧ ρ = [some p', some (.fz (.int b)), none, w, y, none, none, none, none] ∧ acc = ms.map (fun n : Int => T.fz (.int n)) ∧ (∀ m ∈ ms, 0 ≤ m ∧ m < b) ∧ ms.length + ds.length = n) ?st ((rg 0 n).map D.int) [some p, some (.fz (.int b)), none, w, y, none, none, none, none] [] ⟨p, [], h, rfl, rfl, by simp, by simp [rg_len]⟩
  case st =>
    rintro d r ρ acc ⟨p', ms, u, rfl, rfl, hm, hl⟩
    rw [List.length_cons] at hl
    obtain ⟨p'', x, u2, x0, x1, e1⟩ := coin_ok u (by omega) (n := b) (by omega) (by omega)
    refine ⟨[some p', some (.fz (.int b)), none, w, y, none, none, some (.fz d), none], [some p', some (.fz (.int b)), none, w, y, none, none, some (.fz d), none], true, rfl, rfl, (fun z => nomatch z), fun _ => ⟨.fz (.int x), [some p'', some (.fz (.int b)), none, w, y, none, none, some (.fz d), none], ?_, by rw [sizeLine_eq, List.length_map]; omega, p'', ms ++ [x], by rw [List.length_append]; exact u2, rfl, by simp, ?_, by simp; omega⟩⟩
    · simp -implicitDefEqProofs [CE_law_mk_leaves_2, Lw.at_2_0, Lw.at_2_1, Lw.at_3_2, Lw.at_6_4, Lw.at_6_5, Lw.at_7_4, Lw.at_12_10, Lw.at_14_10, Lw.at_14_13, Lw.at_15_10, Lw.at_15_14, Lw.at_17_16, Lw.at_19_3, Lw.at_19_6, Lw.at_19_7, Lw.at_19_8, Lw.at_19_10, Lw.at_19_11, Lw.at_19_12, Lw.at_19_15, Lw.at_19_17, Lw.at_19_18, Lw.at_20_9, Lw.at_20_19, e1, evV1, evKs, pR, fzsR, mvR, callR, callSR, callK0R, callKR, lcR, lc2R, evDs, seqD, DL.augR, mm1R, bfR, ioR, evE, evOe, evEs, evVs, evB, evBs, evI, evS, evSs, andR, orR, bR_ok, bR_ex, bR_no, bE_ok, bE_ex, bE_no, bF_nx, bF_ret, bF_bk, bF_ct, bF_ex, bF_no, oR_s, oR_n, evP, d_fz, d_lst, d_tup, o_add, o_adds, o_sub, o_mul, o_fdiv, o_mod, o_pow, o_lt, o_le, o_gt, o_ge, o_eq, o_ne, o_isN, o_isnN, o_in, o_nin, x_fl, x_ft, x_fs, x_l, x_t, b_lens, b_lenl, b_lent, b_lenr, b_int, b_intb, b_abs, b_min, b_max, t_bl, t_int, t_lst, t_tup, t_non, n_int, z_fz, i_ii, i_bi, i_bb, i_ib, nn_int, nn_non, o_neb, o_eqb, l_lst, l_tup, l_int, k_ft, k_t, y_fl, y_l, a_ints, a_ll, a_fl, a_lf, a_ff, m_app, m_ext, s_lst, callD, takeA, putA, retOk, lendA, ioA, isFz, T.sh, T.shs, shE, D.imm, D.imms, rsvPt, evSet, subT, putT, storeG, st_n, st_t, sts_n, sts_c, allFz, allFzA, tupT, evMmP, evMm, lstAt, wipeT, ownsA, pickL, callSt, evT_lit, evT_sl, evT_gl, evT_op, evT_ch, evT_not, evT_and, evT_or, evT_ife, evT_neg, evT_ix, evT_b1, evT_b2, evT_isi, sizeLine_eq, Function.comp_def]
    · intro m hm'
      rcases List.mem_append.mp hm' with hm' | hm'
      · exact hm m hm'
      · rw [List.mem_singleton] at hm'
        omega
  obtain ⟨acc', ρ', e, p', ms, u, rfl, rfl, hm, hl⟩ := Q
  · have hl' : ms.length = n := by simpa using hl
    exact ⟨p', ms, by rw [← hl']; exact u, hm, hl', e⟩
theorem flt_rg {b : Int} (P : Int → Bool) : ((rg 0 b.toNat).filter P).Pairwise (· < ·) ∧ ∀ x ∈ (rg 0 b.toNat).filter P, 0 ≤ x ∧ x < b := by
  refine ⟨(rg_asc 0 _).filter _, fun x hx => ?_⟩
  have := mem_rg.mp (List.mem_filter.mp hx).1
  omega
theorem comp4 {p : T} {b st w : Int} {few ms : List Int} (hml : ms.length = 13) (b1 : 1 ≤ b) (b2 : b ≤ 5040) (s1 : 1 ≤ st) :
    lcF (stT (.n 8)) (evBs tb15 CT_law_mk_leaves_4) (evE tb15 CE_law_mk_leaves_4) [8] ((rg 0 b.toNat).map D.int) [some p, some (.fz (.int b)), some (.lst (few.map fun n => .fz (.int n))), some (.fz (.int w)), some (.lst (ms.map fun n => .fz (.int n))), some (.fz (.int st)), none, none, none] [] =
      some (.ok (((rg 0 b.toNat).filter fun x => decide (ms.getD (x % st % 13).toNat 0 = 1)).map fun x => .fz (.int x)) [some p, some (.fz (.int b)), some (.lst (few.map fun n => .fz (.int n))), some (.fz (.int w)), some (.lst (ms.map fun n => .fz (.int n))), some (.fz (.int st)), none, none, none]) :=
  lc_p (em := D.int) _ _ rfl _ (by rw [rg_len]; omega) fun x _ => ⟨[some p, some (.fz (.int b)), some (.lst (few.map fun n => .fz (.int n))), some (.fz (.int w)), some (.lst (ms.map fun n => .fz (.int n))), some (.fz (.int st)), none, none, some (.fz (.int x))], rfl, rfl, by
    have a := at_g (ns := ms) (r := x % st % 13) (Int.emod_nonneg _ (by decide)) (by rw [hml]; exact Int.emod_lt_of_pos _ (by decide))
    have s0 : 0 < st := by omega
    simp -implicitDefEqProofs [CT_law_mk_leaves_4, a, s0, evV1, evKs, pR, fzsR, mvR, callR, callSR, callK0R, callKR, lcR, lc2R, evDs, seqD, DL.augR, mm1R, bfR, ioR, evE, evOe, evEs, evVs, evB, evBs, evI, evS, evSs, andR, orR, bR_ok, bR_ex, bR_no, bE_ok, bE_ex, bE_no, bF_nx, bF_ret, bF_bk, bF_ct, bF_ex, bF_no, oR_s, oR_n, evP, d_fz, d_lst, d_tup, o_add, o_adds, o_sub, o_mul, o_fdiv, o_mod, o_pow, o_lt, o_le, o_gt, o_ge, o_eq, o_ne, o_isN, o_isnN, o_in, o_nin, x_fl, x_ft, x_fs, x_l, x_t, b_lens, b_lenl, b_lent, b_lenr, b_int, b_intb, b_abs, b_min, b_max, t_bl, t_int, t_lst, t_tup, t_non, n_int, z_fz, i_ii, i_bi, i_bb, i_ib, nn_int, nn_non, o_neb, o_eqb, l_lst, l_tup, l_int, k_ft, k_t, y_fl, y_l, a_ints, a_ll, a_fl, a_lf, a_ff, m_app, m_ext, s_lst, callD, takeA, putA, retOk, lendA, ioA, isFz, T.sh, T.shs, shE, D.imm, D.imms, rsvPt, evSet, subT, putT, storeG, st_n, st_t, sts_n, sts_c, allFz, allFzA, tupT, evMmP, evMm, lstAt, wipeT, ownsA, pickL, callSt, evT_lit, evT_sl, evT_gl, evT_op, evT_ch, evT_not, evT_and, evT_or, evT_ife, evT_neg, evT_ix, evT_b1, evT_b2, evT_isi, sizeLine_eq, Function.comp_def], fun _ => rfl⟩
theorem comp5 {p : T} {b f0 : Int} {fs xs : List Int} {w mk sp : Option T} (hl : xs.length ≤ 16777216) :
    lcF (stT (.n 8)) (evBs tb15 CT_law_mk_leaves_5) (evE tb15 CE_law_mk_leaves_5) [8] (xs.map D.int) [some p, some (.fz (.int b)), some (.fz (.lst (D.int f0 :: fs.map D.int))), w, mk, sp, none, none, none] [] =
      some (.ok ((xs.filter fun x => !decide (x = f0)).map fun x => .fz (.int x)) [some p, some (.fz (.int b)), some (.fz (.lst (D.int f0 :: fs.map D.int))), w, mk, sp, none, none, none]) :=
  lc_p (em := D.int) _ _ rfl _ hl fun x _ => ⟨[some p, some (.fz (.int b)), some (.fz (.lst (D.int f0 :: fs.map D.int))), w, mk, sp, none, none, some (.fz (.int x))], rfl, rfl, by
    have a0 : L2.atI (D.int f0 :: fs.map D.int) 0 = some (.int f0) := by
      rw [atI_nat (by decide) (by simp only [List.length_cons]; omega)]
      rfl
    simp -implicitDefEqProofs [CT_law_mk_leaves_5, a0, evV1, evKs, pR, fzsR, mvR, callR, callSR, callK0R, callKR, lcR, lc2R, evDs, seqD, DL.augR, mm1R, bfR, ioR, evE, evOe, evEs, evVs, evB, evBs, evI, evS, evSs, andR, orR, bR_ok, bR_ex, bR_no, bE_ok, bE_ex, bE_no, bF_nx, bF_ret, bF_bk, bF_ct, bF_ex, bF_no, oR_s, oR_n, evP, d_fz, d_lst, d_tup, o_add, o_adds, o_sub, o_mul, o_fdiv, o_mod, o_pow, o_lt, o_le, o_gt, o_ge, o_eq, o_ne, o_isN, o_isnN, o_in, o_nin, x_fl, x_ft, x_fs, x_l, x_t, b_lens, b_lenl, b_lent, b_lenr, b_int, b_intb, b_abs, b_min, b_max, t_bl, t_int, t_lst, t_tup, t_non, n_int, z_fz, i_ii, i_bi, i_bb, i_ib, nn_int, nn_non, o_neb, o_eqb, l_lst, l_tup, l_int, k_ft, k_t, y_fl, y_l, a_ints, a_ll, a_fl, a_lf, a_ff, m_app, m_ext, s_lst, callD, takeA, putA, retOk, lendA, ioA, isFz, T.sh, T.shs, shE, D.imm, D.imms, rsvPt, evSet, subT, putT, storeG, st_n, st_t, sts_n, sts_c, allFz, allFzA, tupT, evMmP, evMm, lstAt, wipeT, ownsA, pickL, callSt, evT_lit, evT_sl, evT_gl, evT_op, evT_ch, evT_not, evT_and, evT_or, evT_ife, evT_neg, evT_ix, evT_b1, evT_b2, evT_isi, sizeLine_eq, Function.comp_def], fun _ => rfl⟩
theorem leaves_ok {k : Nat} {p : T} {b : Int} (h : Pu k p) (hk : k + 1000 ≤ 2 ^ 60) (b1 : 1 ≤ b) (b2 : b ≤ 5040) :
    ∃ p' ns, Pu (k + 1000) p' ∧ ns.Pairwise (· < ·) ∧ (∀ x ∈ ns, 0 ≤ x ∧ x < b) ∧ F_law_mk_leaves [p, .fz (.int b)] = some (.ret (.lst (iT ns)) [some p', none]) := by
  obtain ⟨p1, w, u1, w0, w1, e1⟩ := coin_ok h (by omega) (n := 6) (by decide) (by decide)
  obtain ⟨p2, ms, u2, hms, hml, e2⟩ := draws1 (b := b) (w := none) u1 (by omega)
  obtain ⟨p3, n, u3, n0, n1, e3⟩ := coin_ok u2 (by omega) (n := 5) (by decide) (by decide)
  obtain ⟨p4, fs, u4, hfs, hfl, e4⟩ := draws2 (w := some (.fz (.int w))) (y := some (.lst (ms.map fun n => .fz (.int n)))) b1 b2 u3 n.toNat (by omega) (by omega)
  have u5 : Pu (k + 20) p4 := u4.up (by omega)
  have r13 := r1 (j := 13) (by decide) (by decide)
  have rn := r1 (j := n) n0 (by omega)
  have rb := r1 (j := b) (by omega) (by omega)
  have ss := sset_l (ns := fs) (by omega)
  have q0 : ∀ x ∈ setI fs, 0 ≤ x ∧ x < b := fun x hx => hfs x ((setI_mem x fs).mp hx)
  have qa := setI_asc fs
  rw [F_law_mk_leaves_eq]
  generalize setI fs = few at *
  have fin : ∀ (ns : List Int) (p' : T), Pu (k + 1000) p' → ns.Pairwise (· < ·) → (∀ x ∈ ns, 0 ≤ x ∧ x < b) → denB (evSs tb15 d_law_mk_leaves.b) 2 9 [0] [p, .fz (.int b)] = some (.ret (.lst (iT ns)) [some p', none]) →
      ∃ p' ns, Pu (k + 1000) p' ∧ ns.Pairwise (· < ·) ∧ (∀ x ∈ ns, 0 ≤ x ∧ x < b) ∧ denB (evSs tb15 d_law_mk_leaves.b) 2 9 [0] [p, .fz (.int b)] = some (.ret (.lst (iT ns)) [some p', none]) := fun ns p' a1 a2 a3 a4 => ⟨p', ns, a1, a2, a3, a4⟩
  have hw : w = 0 ∨ w = 1 ∨ w = 2 ∨ w = 3 ∨ w = 4 ∨ w = 5 := by omega
  have lb : (rg 0 b.toNat).length ≤ 16777216 := by rw [rg_len]; omega
  rcases hw with rfl | rfl | rfl | rfl | rfl | rfl
  · refine fin few p4 (u5.up (by omega)) qa q0 ?_
    simp -implicitDefEqProofs [denB, finS, d_law_mk_leaves, List.range, List.range.loop, Lw.at_2_0, Lw.at_2_1, Lw.at_3_2, Lw.at_6_4, Lw.at_6_5, Lw.at_7_4, Lw.at_12_10, Lw.at_14_10, Lw.at_14_13, Lw.at_15_10, Lw.at_15_14, Lw.at_17_16, Lw.at_19_3, Lw.at_19_6, Lw.at_19_7, Lw.at_19_8, Lw.at_19_10, Lw.at_19_11, Lw.at_19_12, Lw.at_19_15, Lw.at_19_17, Lw.at_19_18, Lw.at_20_9, Lw.at_20_19, e1, e2, e3, e4, r13, rn, ss, evV1, evKs, pR, fzsR, mvR, callR, callSR, callK0R, callKR, lcR, lc2R, evDs, seqD, DL.augR, mm1R, bfR, ioR, evE, evOe, evEs, evVs, evB, evBs, evI, evS, evSs, andR, orR, bR_ok, bR_ex, bR_no, bE_ok, bE_ex, bE_no, bF_nx, bF_ret, bF_bk, bF_ct, bF_ex, bF_no, oR_s, oR_n, evP, d_fz, d_lst, d_tup, o_add, o_adds, o_sub, o_mul, o_fdiv, o_mod, o_pow, o_lt, o_le, o_gt, o_ge, o_eq, o_ne, o_isN, o_isnN, o_in, o_nin, x_fl, x_ft, x_fs, x_l, x_t, b_lens, b_lenl, b_lent, b_lenr, b_int, b_intb, b_abs, b_min, b_max, t_bl, t_int, t_lst, t_tup, t_non, n_int, z_fz, i_ii, i_bi, i_bb, i_ib, nn_int, nn_non, o_neb, o_eqb, l_lst, l_tup, l_int, k_ft, k_t, y_fl, y_l, a_ints, a_ll, a_fl, a_lf, a_ff, m_app, m_ext, s_lst, callD, takeA, putA, retOk, lendA, ioA, isFz, T.sh, T.shs, shE, D.imm, D.imms, rsvPt, evSet, subT, putT, storeG, st_n, st_t, sts_n, sts_c, allFz, allFzA, tupT, evMmP, evMm, lstAt, wipeT, ownsA, pickL, callSt, evT_lit, evT_sl, evT_gl, evT_op, evT_ch, evT_not, evT_and, evT_or, evT_ife, evT_neg, evT_ix, evT_b1, evT_b2, evT_isi, sizeLine_eq, Function.comp_def]
  · have C : lcF (stT (.n 8)) (evBs tb15 CT_law_mk_leaves_3) (evE tb15 CE_law_mk_leaves_3) [8] ((rg 0 b.toNat).map D.int) [some p4, some (.fz (.int b)), some (.lst (few.map fun n => .fz (.int n))), some (.fz (.int 1)), some (.lst (ms.map fun n => .fz (.int n))), none, none, none, none] [] =
        some (.ok (((rg 0 b.toNat).filter fun x => !decide (x ∈ few)).map fun x => .fz (.int x)) [some p4, some (.fz (.int b)), some (.lst (few.map fun n => .fz (.int n))), some (.fz (.int 1)), some (.lst (ms.map fun n => .fz (.int n))), none, none, none, none]) :=
      lc_p (em := D.int) _ _ rfl _ lb fun x _ => ⟨[some p4, some (.fz (.int b)), some (.lst (few.map fun n => .fz (.int n))), some (.fz (.int 1)), some (.lst (ms.map fun n => .fz (.int n))), none, none, none, some (.fz (.int x))], rfl, rfl, by simp -implicitDefEqProofs [CT_law_mk_leaves_3, in_ints, evV1, evKs, pR, fzsR, mvR, callR, callSR, callK0R, callKR, lcR, lc2R, evDs, seqD, DL.augR, mm1R, bfR, ioR, evE, evOe, evEs, evVs, evB, evBs, evI, evS, evSs, andR, orR, bR_ok, bR_ex, bR_no, bE_ok, bE_ex, bE_no, bF_nx, bF_ret, bF_bk, bF_ct, bF_ex, bF_no, oR_s, oR_n, evP, d_fz, d_lst, d_tup, o_add, o_adds, o_sub, o_mul, o_fdiv, o_mod, o_pow, o_lt, o_le, o_gt, o_ge, o_eq, o_ne, o_isN, o_isnN, o_in, o_nin, x_fl, x_ft, x_fs, x_l, x_t, b_lens, b_lenl, b_lent, b_lenr, b_int, b_intb, b_abs, b_min, b_max, t_bl, t_int, t_lst, t_tup, t_non, n_int, z_fz, i_ii, i_bi, i_bb, i_ib, nn_int, nn_non, o_neb, o_eqb, l_lst, l_tup, l_int, k_ft, k_t, y_fl, y_l, a_ints, a_ll, a_fl, a_lf, a_ff, m_app, m_ext, s_lst, callD, takeA, putA, retOk, lendA, ioA, isFz, T.sh, T.shs, shE, D.imm, D.imms, rsvPt, evSet, subT, putT, storeG, st_n, st_t, sts_n, sts_c, allFz, allFzA, tupT, evMmP, evMm, lstAt, wipeT, ownsA, pickL, callSt, evT_lit, evT_sl, evT_gl, evT_op, evT_ch, evT_not, evT_and, evT_or, evT_ife, evT_neg, evT_ix, evT_b1, evT_b2, evT_isi, sizeLine_eq, Function.comp_def], fun _ => rfl⟩
    obtain ⟨f1, f2⟩ := flt_rg (b := b) fun x => !decide (x ∈ few)
    refine fin _ p4 (u5.up (by omega)) f1 f2 ?_
    simp -implicitDefEqProofs [denB, finS, d_law_mk_leaves, List.range, List.range.loop, Lw.at_2_0, Lw.at_2_1, Lw.at_3_2, Lw.at_6_4, Lw.at_6_5, Lw.at_7_4, Lw.at_12_10, Lw.at_14_10, Lw.at_14_13, Lw.at_15_10, Lw.at_15_14, Lw.at_17_16, Lw.at_19_3, Lw.at_19_6, Lw.at_19_7, Lw.at_19_8, Lw.at_19_10, Lw.at_19_11, Lw.at_19_12, Lw.at_19_15, Lw.at_19_17, Lw.at_19_18, Lw.at_20_9, Lw.at_20_19, e1, e2, e3, e4, r13, rn, rb, ss, C, evV1, evKs, pR, fzsR, mvR, callR, callSR, callK0R, callKR, lcR, lc2R, evDs, seqD, DL.augR, mm1R, bfR, ioR, evE, evOe, evEs, evVs, evB, evBs, evI, evS, evSs, andR, orR, bR_ok, bR_ex, bR_no, bE_ok, bE_ex, bE_no, bF_nx, bF_ret, bF_bk, bF_ct, bF_ex, bF_no, oR_s, oR_n, evP, d_fz, d_lst, d_tup, o_add, o_adds, o_sub, o_mul, o_fdiv, o_mod, o_pow, o_lt, o_le, o_gt, o_ge, o_eq, o_ne, o_isN, o_isnN, o_in, o_nin, x_fl, x_ft, x_fs, x_l, x_t, b_lens, b_lenl, b_lent, b_lenr, b_int, b_intb, b_abs, b_min, b_max, t_bl, t_int, t_lst, t_tup, t_non, n_int, z_fz, i_ii, i_bi, i_bb, i_ib, nn_int, nn_non, o_neb, o_eqb, l_lst, l_tup, l_int, k_ft, k_t, y_fl, y_l, a_ints, a_ll, a_fl, a_lf, a_ff, m_app, m_ext, s_lst, callD, takeA, putA, retOk, lendA, ioA, isFz, T.sh, T.shs, shE, D.imm, D.imms, rsvPt, evSet, subT, putT, storeG, st_n, st_t, sts_n, sts_c, allFz, allFzA, tupT, evMmP, evMm, lstAt, wipeT, ownsA, pickL, callSt, evT_lit, evT_sl, evT_gl, evT_op, evT_ch, evT_not, evT_and, evT_or, evT_ife, evT_neg, evT_ix, evT_b1, evT_b2, evT_isi, sizeLine_eq, Function.comp_def]
  · obtain ⟨p5, st, u6, st1, st2, e5⟩ := part_ok u5 (by omega) b1 b2
    have C := comp4 (few := few) (w := 2) (p := p5) hml b1 b2 st1
    obtain ⟨f1, f2⟩ := flt_rg (b := b) fun x => decide (ms.getD (x % st % 13).toNat 0 = 1)
    have i23 := in_intsT [2, 3] 2
    simp only [List.map] at i23
    refine fin _ p5 (u6.up (by omega)) f1 f2 ?_
    simp -implicitDefEqProofs [denB, finS, d_law_mk_leaves, List.range, List.range.loop, Lw.at_2_0, Lw.at_2_1, Lw.at_3_2, Lw.at_6_4, Lw.at_6_5, Lw.at_7_4, Lw.at_12_10, Lw.at_14_10, Lw.at_14_13, Lw.at_15_10, Lw.at_15_14, Lw.at_17_16, Lw.at_19_3, Lw.at_19_6, Lw.at_19_7, Lw.at_19_8, Lw.at_19_10, Lw.at_19_11, Lw.at_19_12, Lw.at_19_15, Lw.at_19_17, Lw.at_19_18, Lw.at_20_9, Lw.at_20_19, e1, e2, e3, e4, e5, r13, rn, rb, ss, C, i23, evV1, evKs, pR, fzsR, mvR, callR, callSR, callK0R, callKR, lcR, lc2R, evDs, seqD, DL.augR, mm1R, bfR, ioR, evE, evOe, evEs, evVs, evB, evBs, evI, evS, evSs, andR, orR, bR_ok, bR_ex, bR_no, bE_ok, bE_ex, bE_no, bF_nx, bF_ret, bF_bk, bF_ct, bF_ex, bF_no, oR_s, oR_n, evP, d_fz, d_lst, d_tup, o_add, o_adds, o_sub, o_mul, o_fdiv, o_mod, o_pow, o_lt, o_le, o_gt, o_ge, o_eq, o_ne, o_isN, o_isnN, o_in, o_nin, x_fl, x_ft, x_fs, x_l, x_t, b_lens, b_lenl, b_lent, b_lenr, b_int, b_intb, b_abs, b_min, b_max, t_bl, t_int, t_lst, t_tup, t_non, n_int, z_fz, i_ii, i_bi, i_bb, i_ib, nn_int, nn_non, o_neb, o_eqb, l_lst, l_tup, l_int, k_ft, k_t, y_fl, y_l, a_ints, a_ll, a_fl, a_lf, a_ff, m_app, m_ext, s_lst, callD, takeA, putA, retOk, lendA, ioA, isFz, T.sh, T.shs, shE, D.imm, D.imms, rsvPt, evSet, subT, putT, storeG, st_n, st_t, sts_n, sts_c, allFz, allFzA, tupT, evMmP, evMm, lstAt, wipeT, ownsA, pickL, callSt, evT_lit, evT_sl, evT_gl, evT_op, evT_ch, evT_not, evT_and, evT_or, evT_ife, evT_neg, evT_ix, evT_b1, evT_b2, evT_isi, sizeLine_eq, Function.comp_def]
  · obtain ⟨p5, st, u6, st1, st2, e5⟩ := part_ok u5 (by omega) b1 b2
    have C := comp4 (few := few) (w := 3) (p := p5) hml b1 b2 st1
    obtain ⟨f1, f2⟩ := flt_rg (b := b) fun x => decide (ms.getD (x % st % 13).toNat 0 = 1)
    have i23 := in_intsT [2, 3] 3
    simp only [List.map] at i23
    have sl2 : ((rg 0 b.toNat).filter fun x => decide (ms.getD (x % st % 13).toNat 0 = 1)).length ≤ 5040 := by
      have := List.length_filter_le (fun x => decide (ms.getD (x % st % 13).toNat 0 = 1)) (rg 0 b.toNat)
      rw [rg_len] at this
      omega
    generalize ((rg 0 b.toNat).filter fun x => decide (ms.getD (x % st % 13).toNat 0 = 1)) = some_ at *
    cases few with
    | nil =>
      refine fin _ p5 (u6.up (by omega)) f1 f2 ?_
      have en : o2 .eq (.lst []) (.lst []) = some (.bl true) := eq_nil []
      simp only [List.map_nil] at C ss
      simp -implicitDefEqProofs [denB, finS, d_law_mk_leaves, List.range, List.range.loop, Lw.at_2_0, Lw.at_2_1, Lw.at_3_2, Lw.at_6_4, Lw.at_6_5, Lw.at_7_4, Lw.at_12_10, Lw.at_14_10, Lw.at_14_13, Lw.at_15_10, Lw.at_15_14, Lw.at_17_16, Lw.at_19_3, Lw.at_19_6, Lw.at_19_7, Lw.at_19_8, Lw.at_19_10, Lw.at_19_11, Lw.at_19_12, Lw.at_19_15, Lw.at_19_17, Lw.at_19_18, Lw.at_20_9, Lw.at_20_19, e1, e2, e3, e4, e5, r13, rn, rb, ss, C, i23, en, evV1, evKs, pR, fzsR, mvR, callR, callSR, callK0R, callKR, lcR, lc2R, evDs, seqD, DL.augR, mm1R, bfR, ioR, evE, evOe, evEs, evVs, evB, evBs, evI, evS, evSs, andR, orR, bR_ok, bR_ex, bR_no, bE_ok, bE_ex, bE_no, bF_nx, bF_ret, bF_bk, bF_ct, bF_ex, bF_no, oR_s, oR_n, evP, d_fz, d_lst, d_tup, o_add, o_adds, o_sub, o_mul, o_fdiv, o_mod, o_pow, o_lt, o_le, o_gt, o_ge, o_eq, o_ne, o_isN, o_isnN, o_in, o_nin, x_fl, x_ft, x_fs, x_l, x_t, b_lens, b_lenl, b_lent, b_lenr, b_int, b_intb, b_abs, b_min, b_max, t_bl, t_int, t_lst, t_tup, t_non, n_int, z_fz, i_ii, i_bi, i_bb, i_ib, nn_int, nn_non, o_neb, o_eqb, l_lst, l_tup, l_int, k_ft, k_t, y_fl, y_l, a_ints, a_ll, a_fl, a_lf, a_ff, m_app, m_ext, s_lst, callD, takeA, putA, retOk, lendA, ioA, isFz, T.sh, T.shs, shE, D.imm, D.imms, rsvPt, evSet, subT, putT, storeG, st_n, st_t, sts_n, sts_c, allFz, allFzA, tupT, evMmP, evMm, lstAt, wipeT, ownsA, pickL, callSt, evT_lit, evT_sl, evT_gl, evT_op, evT_ch, evT_not, evT_and, evT_or, evT_ife, evT_neg, evT_ix, evT_b1, evT_b2, evT_isi, sizeLine_eq, Function.comp_def]
    | cons f0 fs' =>
      have en := eq_nil (f0 :: fs')
      simp only [List.map_cons] at en C ss
      have a0 : L2.atI (D.int f0 :: fs'.map D.int) 0 = some (.int f0) := by
        rw [atI_nat (by decide) (by simp only [List.length_cons]; omega)]
        rfl
      have ii := in_ints some_ f0
      by_cases hf : f0 ∈ some_
      · have C5 := comp5 (p := p5) (b := b) (w := some (.fz (.int 3))) (mk := some (.lst (ms.map fun n => .fz (.int n)))) (sp := some (.fz (.int st))) (f0 := f0) (fs := fs') (xs := some_) (by omega)
        refine fin (some_.filter fun x => !decide (x = f0)) p5 (u6.up (by omega)) (f1.filter _) (fun x hx => f2 x (List.mem_filter.mp hx).1) ?_
        simp -implicitDefEqProofs [denB, finS, d_law_mk_leaves, List.range, List.range.loop, Lw.at_2_0, Lw.at_2_1, Lw.at_3_2, Lw.at_6_4, Lw.at_6_5, Lw.at_7_4, Lw.at_12_10, Lw.at_14_10, Lw.at_14_13, Lw.at_15_10, Lw.at_15_14, Lw.at_17_16, Lw.at_19_3, Lw.at_19_6, Lw.at_19_7, Lw.at_19_8, Lw.at_19_10, Lw.at_19_11, Lw.at_19_12, Lw.at_19_15, Lw.at_19_17, Lw.at_19_18, Lw.at_20_9, Lw.at_20_19, e1, e2, e3, e4, e5, r13, rn, rb, ss, C, C5, i23, en, a0, ii, hf, evV1, evKs, pR, fzsR, mvR, callR, callSR, callK0R, callKR, lcR, lc2R, evDs, seqD, DL.augR, mm1R, bfR, ioR, evE, evOe, evEs, evVs, evB, evBs, evI, evS, evSs, andR, orR, bR_ok, bR_ex, bR_no, bE_ok, bE_ex, bE_no, bF_nx, bF_ret, bF_bk, bF_ct, bF_ex, bF_no, oR_s, oR_n, evP, d_fz, d_lst, d_tup, o_add, o_adds, o_sub, o_mul, o_fdiv, o_mod, o_pow, o_lt, o_le, o_gt, o_ge, o_eq, o_ne, o_isN, o_isnN, o_in, o_nin, x_fl, x_ft, x_fs, x_l, x_t, b_lens, b_lenl, b_lent, b_lenr, b_int, b_intb, b_abs, b_min, b_max, t_bl, t_int, t_lst, t_tup, t_non, n_int, z_fz, i_ii, i_bi, i_bb, i_ib, nn_int, nn_non, o_neb, o_eqb, l_lst, l_tup, l_int, k_ft, k_t, y_fl, y_l, a_ints, a_ll, a_fl, a_lf, a_ff, m_app, m_ext, s_lst, callD, takeA, putA, retOk, lendA, ioA, isFz, T.sh, T.shs, shE, D.imm, D.imms, rsvPt, evSet, subT, putT, storeG, st_n, st_t, sts_n, sts_c, allFz, allFzA, tupT, evMmP, evMm, lstAt, wipeT, ownsA, pickL, callSt, evT_lit, evT_sl, evT_gl, evT_op, evT_ch, evT_not, evT_and, evT_or, evT_ife, evT_neg, evT_ix, evT_b1, evT_b2, evT_isi, sizeLine_eq, Function.comp_def]
      · have so := bf_sortL (some_ ++ [f0])
        have nd : (some_ ++ [f0]).Nodup := by
          rw [List.nodup_append]
          refine ⟨f1.imp fun h => by omega, by simp, fun x hx y hy => ?_⟩
          rw [List.mem_singleton] at hy
          subst hy
          intro e
          subst e
          exact hf hx
        simp only [iT, List.map_append, List.map_cons, List.map_nil] at so
        have sz : some_.length + 1 ≤ 16777216 := by omega
        refine fin (sortI (some_ ++ [f0])) p5 (u6.up (by omega)) (sort_asc nd) (fun x hx => ?_) ?_
        · rcases List.mem_append.mp (sort_mem.mp hx) with hx | hx
          · exact f2 x hx
          · rw [List.mem_singleton] at hx
            subst hx
            exact q0 _ (by simp)
        · simp -implicitDefEqProofs [denB, finS, d_law_mk_leaves, List.range, List.range.loop, Lw.at_2_0, Lw.at_2_1, Lw.at_3_2, Lw.at_6_4, Lw.at_6_5, Lw.at_7_4, Lw.at_12_10, Lw.at_14_10, Lw.at_14_13, Lw.at_15_10, Lw.at_15_14, Lw.at_17_16, Lw.at_19_3, Lw.at_19_6, Lw.at_19_7, Lw.at_19_8, Lw.at_19_10, Lw.at_19_11, Lw.at_19_12, Lw.at_19_15, Lw.at_19_17, Lw.at_19_18, Lw.at_20_9, Lw.at_20_19, e1, e2, e3, e4, e5, r13, rn, rb, ss, C, i23, en, a0, ii, hf, so, sz, evV1, evKs, pR, fzsR, mvR, callR, callSR, callK0R, callKR, lcR, lc2R, evDs, seqD, DL.augR, mm1R, bfR, ioR, evE, evOe, evEs, evVs, evB, evBs, evI, evS, evSs, andR, orR, bR_ok, bR_ex, bR_no, bE_ok, bE_ex, bE_no, bF_nx, bF_ret, bF_bk, bF_ct, bF_ex, bF_no, oR_s, oR_n, evP, d_fz, d_lst, d_tup, o_add, o_adds, o_sub, o_mul, o_fdiv, o_mod, o_pow, o_lt, o_le, o_gt, o_ge, o_eq, o_ne, o_isN, o_isnN, o_in, o_nin, x_fl, x_ft, x_fs, x_l, x_t, b_lens, b_lenl, b_lent, b_lenr, b_int, b_intb, b_abs, b_min, b_max, t_bl, t_int, t_lst, t_tup, t_non, n_int, z_fz, i_ii, i_bi, i_bb, i_ib, nn_int, nn_non, o_neb, o_eqb, l_lst, l_tup, l_int, k_ft, k_t, y_fl, y_l, a_ints, a_ll, a_fl, a_lf, a_ff, m_app, m_ext, s_lst, callD, takeA, putA, retOk, lendA, ioA, isFz, T.sh, T.shs, shE, D.imm, D.imms, rsvPt, evSet, subT, putT, storeG, st_n, st_t, sts_n, sts_c, allFz, allFzA, tupT, evMmP, evMm, lstAt, wipeT, ownsA, pickL, callSt, evT_lit, evT_sl, evT_gl, evT_op, evT_ch, evT_not, evT_and, evT_or, evT_ife, evT_neg, evT_ix, evT_b1, evT_b2, evT_isi, sizeLine_eq, Function.comp_def]
  · have C : lcF (stT (.n 8)) (evBs tb15 CT_law_mk_leaves_6) (evE tb15 CE_law_mk_leaves_6) [8] ((rg 0 b.toNat).map D.int) [some p4, some (.fz (.int b)), some (.lst (few.map fun n => .fz (.int n))), some (.fz (.int 4)), some (.lst (ms.map fun n => .fz (.int n))), none, none, none, none] [] =
        some (.ok (((rg 0 b.toNat).filter fun x => decide (ms.getD (x % 13).toNat 0 = 1)).map fun x => .fz (.int x)) [some p4, some (.fz (.int b)), some (.lst (few.map fun n => .fz (.int n))), some (.fz (.int 4)), some (.lst (ms.map fun n => .fz (.int n))), none, none, none, none]) :=
      lc_p (em := D.int) _ _ rfl _ lb fun x _ => ⟨[some p4, some (.fz (.int b)), some (.lst (few.map fun n => .fz (.int n))), some (.fz (.int 4)), some (.lst (ms.map fun n => .fz (.int n))), none, none, none, some (.fz (.int x))], rfl, rfl, by
        have a := at_g (ns := ms) (r := x % 13) (Int.emod_nonneg _ (by decide)) (by rw [hml]; exact Int.emod_lt_of_pos _ (by decide))
        simp -implicitDefEqProofs [CT_law_mk_leaves_6, a, evV1, evKs, pR, fzsR, mvR, callR, callSR, callK0R, callKR, lcR, lc2R, evDs, seqD, DL.augR, mm1R, bfR, ioR, evE, evOe, evEs, evVs, evB, evBs, evI, evS, evSs, andR, orR, bR_ok, bR_ex, bR_no, bE_ok, bE_ex, bE_no, bF_nx, bF_ret, bF_bk, bF_ct, bF_ex, bF_no, oR_s, oR_n, evP, d_fz, d_lst, d_tup, o_add, o_adds, o_sub, o_mul, o_fdiv, o_mod, o_pow, o_lt, o_le, o_gt, o_ge, o_eq, o_ne, o_isN, o_isnN, o_in, o_nin, x_fl, x_ft, x_fs, x_l, x_t, b_lens, b_lenl, b_lent, b_lenr, b_int, b_intb, b_abs, b_min, b_max, t_bl, t_int, t_lst, t_tup, t_non, n_int, z_fz, i_ii, i_bi, i_bb, i_ib, nn_int, nn_non, o_neb, o_eqb, l_lst, l_tup, l_int, k_ft, k_t, y_fl, y_l, a_ints, a_ll, a_fl, a_lf, a_ff, m_app, m_ext, s_lst, callD, takeA, putA, retOk, lendA, ioA, isFz, T.sh, T.shs, shE, D.imm, D.imms, rsvPt, evSet, subT, putT, storeG, st_n, st_t, sts_n, sts_c, allFz, allFzA, tupT, evMmP, evMm, lstAt, wipeT, ownsA, pickL, callSt, evT_lit, evT_sl, evT_gl, evT_op, evT_ch, evT_not, evT_and, evT_or, evT_ife, evT_neg, evT_ix, evT_b1, evT_b2, evT_isi, sizeLine_eq, Function.comp_def], fun _ => rfl⟩
    obtain ⟨f1, f2⟩ := flt_rg (b := b) fun x => decide (ms.getD (x % 13).toNat 0 = 1)
    have i23 := in_intsT [2, 3] 4
    simp only [List.map] at i23
    refine fin _ p4 (u5.up (by omega)) f1 f2 ?_
    simp -implicitDefEqProofs [denB, finS, d_law_mk_leaves, List.range, List.range.loop, Lw.at_2_0, Lw.at_2_1, Lw.at_3_2, Lw.at_6_4, Lw.at_6_5, Lw.at_7_4, Lw.at_12_10, Lw.at_14_10, Lw.at_14_13, Lw.at_15_10, Lw.at_15_14, Lw.at_17_16, Lw.at_19_3, Lw.at_19_6, Lw.at_19_7, Lw.at_19_8, Lw.at_19_10, Lw.at_19_11, Lw.at_19_12, Lw.at_19_15, Lw.at_19_17, Lw.at_19_18, Lw.at_20_9, Lw.at_20_19, e1, e2, e3, e4, r13, rn, rb, ss, C, i23, evV1, evKs, pR, fzsR, mvR, callR, callSR, callK0R, callKR, lcR, lc2R, evDs, seqD, DL.augR, mm1R, bfR, ioR, evE, evOe, evEs, evVs, evB, evBs, evI, evS, evSs, andR, orR, bR_ok, bR_ex, bR_no, bE_ok, bE_ex, bE_no, bF_nx, bF_ret, bF_bk, bF_ct, bF_ex, bF_no, oR_s, oR_n, evP, d_fz, d_lst, d_tup, o_add, o_adds, o_sub, o_mul, o_fdiv, o_mod, o_pow, o_lt, o_le, o_gt, o_ge, o_eq, o_ne, o_isN, o_isnN, o_in, o_nin, x_fl, x_ft, x_fs, x_l, x_t, b_lens, b_lenl, b_lent, b_lenr, b_int, b_intb, b_abs, b_min, b_max, t_bl, t_int, t_lst, t_tup, t_non, n_int, z_fz, i_ii, i_bi, i_bb, i_ib, nn_int, nn_non, o_neb, o_eqb, l_lst, l_tup, l_int, k_ft, k_t, y_fl, y_l, a_ints, a_ll, a_fl, a_lf, a_ff, m_app, m_ext, s_lst, callD, takeA, putA, retOk, lendA, ioA, isFz, T.sh, T.shs, shE, D.imm, D.imms, rsvPt, evSet, subT, putT, storeG, st_n, st_t, sts_n, sts_c, allFz, allFzA, tupT, evMmP, evMm, lstAt, wipeT, ownsA, pickL, callSt, evT_lit, evT_sl, evT_gl, evT_op, evT_ch, evT_not, evT_and, evT_or, evT_ife, evT_neg, evT_ix, evT_b1, evT_b2, evT_isi, sizeLine_eq, Function.comp_def]
  · obtain ⟨v, _, a⟩ := at_i (ns := ms) (r := 0) (by decide) (by rw [hml]; decide)
    have i23 := in_intsT [2, 3] 5
    simp only [List.map] at i23
    have lr := lrg (i := 0) (j := b) (by decide) (by omega) (by omega) (by decide)
    by_cases hm : v = 1
    · refine fin (rg 0 b.toNat) p4 (u5.up (by omega)) (rg_asc 0 _) (fun x hx => by have := mem_rg.mp hx; omega) ?_
      have e9 : (b - 0).toNat = b.toNat := by omega
      rw [e9] at lr
      simp -implicitDefEqProofs [denB, finS, d_law_mk_leaves, List.range, List.range.loop, Lw.at_2_0, Lw.at_2_1, Lw.at_3_2, Lw.at_6_4, Lw.at_6_5, Lw.at_7_4, Lw.at_12_10, Lw.at_14_10, Lw.at_14_13, Lw.at_15_10, Lw.at_15_14, Lw.at_17_16, Lw.at_19_3, Lw.at_19_6, Lw.at_19_7, Lw.at_19_8, Lw.at_19_10, Lw.at_19_11, Lw.at_19_12, Lw.at_19_15, Lw.at_19_17, Lw.at_19_18, Lw.at_20_9, Lw.at_20_19, e1, e2, e3, e4, r13, rn, rb, ss, a, hm, lr, i23, evV1, evKs, pR, fzsR, mvR, callR, callSR, callK0R, callKR, lcR, lc2R, evDs, seqD, DL.augR, mm1R, bfR, ioR, evE, evOe, evEs, evVs, evB, evBs, evI, evS, evSs, andR, orR, bR_ok, bR_ex, bR_no, bE_ok, bE_ex, bE_no, bF_nx, bF_ret, bF_bk, bF_ct, bF_ex, bF_no, oR_s, oR_n, evP, d_fz, d_lst, d_tup, o_add, o_adds, o_sub, o_mul, o_fdiv, o_mod, o_pow, o_lt, o_le, o_gt, o_ge, o_eq, o_ne, o_isN, o_isnN, o_in, o_nin, x_fl, x_ft, x_fs, x_l, x_t, b_lens, b_lenl, b_lent, b_lenr, b_int, b_intb, b_abs, b_min, b_max, t_bl, t_int, t_lst, t_tup, t_non, n_int, z_fz, i_ii, i_bi, i_bb, i_ib, nn_int, nn_non, o_neb, o_eqb, l_lst, l_tup, l_int, k_ft, k_t, y_fl, y_l, a_ints, a_ll, a_fl, a_lf, a_ff, m_app, m_ext, s_lst, callD, takeA, putA, retOk, lendA, ioA, isFz, T.sh, T.shs, shE, D.imm, D.imms, rsvPt, evSet, subT, putT, storeG, st_n, st_t, sts_n, sts_c, allFz, allFzA, tupT, evMmP, evMm, lstAt, wipeT, ownsA, pickL, callSt, evT_lit, evT_sl, evT_gl, evT_op, evT_ch, evT_not, evT_and, evT_or, evT_ife, evT_neg, evT_ix, evT_b1, evT_b2, evT_isi, sizeLine_eq, Function.comp_def]
    · refine fin [] p4 (u5.up (by omega)) List.Pairwise.nil (fun x hx => nomatch hx) ?_
      simp -implicitDefEqProofs [denB, finS, d_law_mk_leaves, List.range, List.range.loop, Lw.at_2_0, Lw.at_2_1, Lw.at_3_2, Lw.at_6_4, Lw.at_6_5, Lw.at_7_4, Lw.at_12_10, Lw.at_14_10, Lw.at_14_13, Lw.at_15_10, Lw.at_15_14, Lw.at_17_16, Lw.at_19_3, Lw.at_19_6, Lw.at_19_7, Lw.at_19_8, Lw.at_19_10, Lw.at_19_11, Lw.at_19_12, Lw.at_19_15, Lw.at_19_17, Lw.at_19_18, Lw.at_20_9, Lw.at_20_19, e1, e2, e3, e4, r13, rn, rb, ss, a, hm, i23, evV1, evKs, pR, fzsR, mvR, callR, callSR, callK0R, callKR, lcR, lc2R, evDs, seqD, DL.augR, mm1R, bfR, ioR, evE, evOe, evEs, evVs, evB, evBs, evI, evS, evSs, andR, orR, bR_ok, bR_ex, bR_no, bE_ok, bE_ex, bE_no, bF_nx, bF_ret, bF_bk, bF_ct, bF_ex, bF_no, oR_s, oR_n, evP, d_fz, d_lst, d_tup, o_add, o_adds, o_sub, o_mul, o_fdiv, o_mod, o_pow, o_lt, o_le, o_gt, o_ge, o_eq, o_ne, o_isN, o_isnN, o_in, o_nin, x_fl, x_ft, x_fs, x_l, x_t, b_lens, b_lenl, b_lent, b_lenr, b_int, b_intb, b_abs, b_min, b_max, t_bl, t_int, t_lst, t_tup, t_non, n_int, z_fz, i_ii, i_bi, i_bb, i_ib, nn_int, nn_non, o_neb, o_eqb, l_lst, l_tup, l_int, k_ft, k_t, y_fl, y_l, a_ints, a_ll, a_fl, a_lf, a_ff, m_app, m_ext, s_lst, callD, takeA, putA, retOk, lendA, ioA, isFz, T.sh, T.shs, shE, D.imm, D.imms, rsvPt, evSet, subT, putT, storeG, st_n, st_t, sts_n, sts_c, allFz, allFzA, tupT, evMmP, evMm, lstAt, wipeT, ownsA, pickL, callSt, evT_lit, evT_sl, evT_gl, evT_op, evT_ch, evT_not, evT_and, evT_or, evT_ife, evT_neg, evT_ix, evT_b1, evT_b2, evT_isi, sizeLine_eq, Function.comp_def]
end Lw
namespace Lw
open PySem DL
theorem spread_ok {e : Int} {ns : List Int} (l : Lot e ns) : F_law_mk_spread [.fz (lotD e ns), .fz (.int e)] = some (.ret (.lst (iT ns)) [none, none]) := by
  have l1 := l.e1
  have l2 := l.e2
  have ln := l.len
  have r3 : rng3D (.int 0) (.int e) (.int e) = some [.int 0] := by
    have sz : Builtin.Range.rangeSize 0 e e = 1 := by
      unfold Builtin.Range.rangeSize
      rw [if_pos (by omega), if_pos (by omega), Int.ediv_eq_zero_of_lt (by omega) (by omega)]
      rfl
    have sm : Builtin.Range.small 0 e e = true := by
      unfold Builtin.Range.small
      rw [sz]
      have c0 : e > 0 := by omega
      simp only [Builtin.Range.rangeFitsLong, Bool.and_eq_true, Bool.or_eq_true, decide_eq_true_eq, beq_iff_eq, c0, if_true]
      omega
    show (if e ≠ 0 ∧ e.natAbs < 1073741824 ∧ Builtin.Range.small 0 e e = true ∧ 0 ≤ Builtin.Range.rangeSize 0 e e then some (rngL 0 e (Builtin.Range.rangeSize 0 e e).toNat) else none) = _
    rw [if_pos ⟨by omega, by omega, sm, by rw [sz]; decide⟩, sz]
    rfl
  have C : lcF (stT (.n 4)) (evBs tb16 CT_law_mk_spread_1) (evE tb16 CE_law_mk_spread_1) [4] (ns.map D.int) [some (.fz (lotD e ns)), some (.fz (.int e)), some (.lst []), some (.fz (.int 0)), none] [] =
      some (.ok (ns.map fun x => .fz (.int x)) [some (.fz (lotD e ns)), some (.fz (.int e)), some (.lst []), some (.fz (.int 0)), none]) :=
    lc_m (em := D.int) _ rfl ns (by omega) fun x hx => ⟨[some (.fz (lotD e ns)), some (.fz (.int e)), some (.lst []), some (.fz (.int 0)), some (.fz (.int x))], rfl, rfl, rfl, by simp -implicitDefEqProofs [CE_law_mk_spread_1, evV1, evKs, pR, fzsR, mvR, callR, callSR, callK0R, callKR, lcR, lc2R, evDs, seqD, DL.augR, mm1R, bfR, ioR, evE, evOe, evEs, evVs, evB, evBs, evI, evS, evSs, andR, orR, bR_ok, bR_ex, bR_no, bE_ok, bE_ex, bE_no, bF_nx, bF_ret, bF_bk, bF_ct, bF_ex, bF_no, oR_s, oR_n, evP, d_fz, d_lst, d_tup, o_add, o_adds, o_sub, o_mul, o_fdiv, o_mod, o_pow, o_lt, o_le, o_gt, o_ge, o_eq, o_ne, o_isN, o_isnN, o_in, o_nin, x_fl, x_ft, x_fs, x_l, x_t, b_lens, b_lenl, b_lent, b_lenr, b_int, b_intb, b_abs, b_min, b_max, t_bl, t_int, t_lst, t_tup, t_non, n_int, z_fz, i_ii, i_bi, i_bb, i_ib, nn_int, nn_non, o_neb, o_eqb, l_lst, l_tup, l_int, k_ft, k_t, y_fl, y_l, a_ints, a_ll, a_fl, a_lf, a_ff, m_app, m_ext, s_lst, callD, takeA, putA, retOk, lendA, ioA, isFz, T.sh, T.shs, shE, D.imm, D.imms, rsvPt, evSet, subT, putT, storeG, st_n, st_t, sts_n, sts_c, allFz, allFzA, tupT, evMmP, evMm, lstAt, wipeT, ownsA, pickL, callSt, evT_lit, evT_sl, evT_gl, evT_op, evT_ch, evT_not, evT_and, evT_or, evT_ife, evT_neg, evT_ix, evT_b1, evT_b2, evT_isi, sizeLine_eq, Function.comp_def]⟩
  have a1 : L2.atI [D.int e, D.lst (ns.map D.int)] 1 = some (.lst (ns.map D.int)) := rfl
  have a0 : L2.atI [D.int e, D.lst (ns.map D.int)] 0 = some (.int e) := rfl
  have sz : ns.length ≤ 16777216 := by omega
  rw [F_law_mk_spread_eq]
  simp -implicitDefEqProofs [denB, finS, d_law_mk_spread, List.range, List.range.loop, B_law_mk_spread_1, forF, Mm, r3, C, a0, a1, sz, evV1, evKs, pR, fzsR, mvR, callR, callSR, callK0R, callKR, lcR, lc2R, evDs, seqD, DL.augR, mm1R, bfR, ioR, evE, evOe, evEs, evVs, evB, evBs, evI, evS, evSs, andR, orR, bR_ok, bR_ex, bR_no, bE_ok, bE_ex, bE_no, bF_nx, bF_ret, bF_bk, bF_ct, bF_ex, bF_no, oR_s, oR_n, evP, d_fz, d_lst, d_tup, o_add, o_adds, o_sub, o_mul, o_fdiv, o_mod, o_pow, o_lt, o_le, o_gt, o_ge, o_eq, o_ne, o_isN, o_isnN, o_in, o_nin, x_fl, x_ft, x_fs, x_l, x_t, b_lens, b_lenl, b_lent, b_lenr, b_int, b_intb, b_abs, b_min, b_max, t_bl, t_int, t_lst, t_tup, t_non, n_int, z_fz, i_ii, i_bi, i_bb, i_ib, nn_int, nn_non, o_neb, o_eqb, l_lst, l_tup, l_int, k_ft, k_t, y_fl, y_l, a_ints, a_ll, a_fl, a_lf, a_ff, m_app, m_ext, s_lst, callD, takeA, putA, retOk, lendA, ioA, isFz, T.sh, T.shs, shE, D.imm, D.imms, rsvPt, evSet, subT, putT, storeG, st_n, st_t, sts_n, sts_c, allFz, allFzA, tupT, evMmP, evMm, lstAt, wipeT, ownsA, pickL, callSt, evT_lit, evT_sl, evT_gl, evT_op, evT_ch, evT_not, evT_and, evT_or, evT_ife, evT_neg, evT_ix, evT_b1, evT_b2, evT_isi, sizeLine_eq, Function.comp_def]
theorem rg_set {b : Nat} {i : Int} {f : Int → T} {v : T} (h0 : 0 ≤ i) : ((rg 0 b).map f).set i.toNat v = (rg 0 b).map fun x => if x = i then v else f x := by
  refine List.ext_getElem? fun j => ?_
  rw [List.getElem?_set]
  simp only [List.getElem?_map, List.length_map, rg_len]
  unfold rg
  simp only [List.getElem?_map]
  by_cases hj : j < b
  · rw [List.getElem?_range hj]
    simp only [Option.map_some]
    by_cases e : i.toNat = j
    · rw [if_pos e, if_pos (by omega), if_pos (by omega)]
    · rw [if_neg e, if_neg (by omega)]
  · rw [List.getElem?_eq_none (by simpa using hj)]
    simp only [Option.map_none]
    split
    · rw [if_neg (by omega)]
    · rfl
def mkT (b : Int) (ns : List Int) : List T := (rg 0 b.toNat).map fun i => .fz (.bl (decide (i ∈ ns)))
theorem marks_ok {e : Int} {ns : List Int} (l : Lot e ns) : F_law_mk_marks [.fz (lotD e ns), .fz (.int e)] = some (.ret (.lst (mkT e ns)) [none, none]) := by
  have l1 := l.e1
  have l2 := l.e2
  have ln := l.len
  have sp := spread_ok l
  have rb := r1 (j := e) (by omega) (by omega)
  have C : lcF (stT (.n 4)) (evBs tb17 CT_law_mk_marks_1) (evE tb17 CE_law_mk_marks_1) [4] ((rg 0 e.toNat).map D.int) [some (.fz (lotD e ns)), some (.fz (.int e)), none, none, none] [] =
      some (.ok ((rg 0 e.toNat).map fun x => .fz (.bl false)) [some (.fz (lotD e ns)), some (.fz (.int e)), none, none, none]) :=
    lc_m (em := D.int) _ rfl _ (by rw [rg_len]; omega) fun x hx => ⟨[some (.fz (lotD e ns)), some (.fz (.int e)), none, none, some (.fz (.int x))], rfl, rfl, rfl, rfl⟩
  have L : ∃ ρ', forF (stT (.n 3)) (evSs tb17 B_law_mk_marks_1) (ns.map D.int) [none, some (.fz (.int e)), some (.lst ((rg 0 e.toNat).map fun x => .fz (.bl false))), none, none] = some (.nx ρ') ∧ ∃ o, ρ' = [none, some (.fz (.int e)), some (.lst (mkT e ns)), o, none] := by
    refine for_ints (fun done _ ρ' => ∃ o, ρ' = [none, some (.fz (.int e)), some (.lst (mkT e done)), o, none]) ⟨none, by simp [mkT]⟩ ?_
    rintro done x r ρ ed ⟨o, rfl⟩
    obtain ⟨x0, x1⟩ := l.rng x (by rw [ed]; simp)
    refine ⟨_, rfl, _, .inl ?_, some (.fz (.int x)), rfl⟩
    have ix : L2.ixN (mkT e done).length x = some x.toNat := by
      unfold L2.ixN mkT
      rw [List.length_map, rg_len, if_pos x0, if_pos (by omega)]
    have st : (mkT e done).set x.toNat (.fz (.bl true)) = mkT e (done ++ [x]) := by
      unfold mkT
      rw [rg_set x0]
      refine List.map_congr_left fun i _ => ?_
      by_cases h : i = x
      · subst h; simp
      · simp [h]
    simp -implicitDefEqProofs [B_law_mk_marks_1, ix, st, evV1, evKs, pR, fzsR, mvR, callR, callSR, callK0R, callKR, lcR, lc2R, evDs, seqD, DL.augR, mm1R, bfR, ioR, evE, evOe, evEs, evVs, evB, evBs, evI, evS, evSs, andR, orR, bR_ok, bR_ex, bR_no, bE_ok, bE_ex, bE_no, bF_nx, bF_ret, bF_bk, bF_ct, bF_ex, bF_no, oR_s, oR_n, evP, d_fz, d_lst, d_tup, o_add, o_adds, o_sub, o_mul, o_fdiv, o_mod, o_pow, o_lt, o_le, o_gt, o_ge, o_eq, o_ne, o_isN, o_isnN, o_in, o_nin, x_fl, x_ft, x_fs, x_l, x_t, b_lens, b_lenl, b_lent, b_lenr, b_int, b_intb, b_abs, b_min, b_max, t_bl, t_int, t_lst, t_tup, t_non, n_int, z_fz, i_ii, i_bi, i_bb, i_ib, nn_int, nn_non, o_neb, o_eqb, l_lst, l_tup, l_int, k_ft, k_t, y_fl, y_l, a_ints, a_ll, a_fl, a_lf, a_ff, m_app, m_ext, s_lst, callD, takeA, putA, retOk, lendA, ioA, isFz, T.sh, T.shs, shE, D.imm, D.imms, rsvPt, evSet, subT, putT, storeG, st_n, st_t, sts_n, sts_c, allFz, allFzA, tupT, evMmP, evMm, lstAt, wipeT, ownsA, pickL, callSt, evT_lit, evT_sl, evT_gl, evT_op, evT_ch, evT_not, evT_and, evT_or, evT_ife, evT_neg, evT_ix, evT_b1, evT_b2, evT_isi, sizeLine_eq, Function.comp_def]
  obtain ⟨ρ', e1, o, rfl⟩ := L
  rw [F_law_mk_marks_eq]
  simp -implicitDefEqProofs [denB, finS, d_law_mk_marks, List.range, List.range.loop, Lw.at_2_0, Lw.at_2_1, Lw.at_3_2, Lw.at_6_4, Lw.at_6_5, Lw.at_7_4, Lw.at_12_10, Lw.at_14_10, Lw.at_14_13, Lw.at_15_10, Lw.at_15_14, Lw.at_17_16, Lw.at_19_3, Lw.at_19_6, Lw.at_19_7, Lw.at_19_8, Lw.at_19_10, Lw.at_19_11, Lw.at_19_12, Lw.at_19_15, Lw.at_19_17, Lw.at_19_18, Lw.at_20_9, Lw.at_20_19, rb, C, sp, e1, evV1, evKs, pR, fzsR, mvR, callR, callSR, callK0R, callKR, lcR, lc2R, evDs, seqD, DL.augR, mm1R, bfR, ioR, evE, evOe, evEs, evVs, evB, evBs, evI, evS, evSs, andR, orR, bR_ok, bR_ex, bR_no, bE_ok, bE_ex, bE_no, bF_nx, bF_ret, bF_bk, bF_ct, bF_ex, bF_no, oR_s, oR_n, evP, d_fz, d_lst, d_tup, o_add, o_adds, o_sub, o_mul, o_fdiv, o_mod, o_pow, o_lt, o_le, o_gt, o_ge, o_eq, o_ne, o_isN, o_isnN, o_in, o_nin, x_fl, x_ft, x_fs, x_l, x_t, b_lens, b_lenl, b_lent, b_lenr, b_int, b_intb, b_abs, b_min, b_max, t_bl, t_int, t_lst, t_tup, t_non, n_int, z_fz, i_ii, i_bi, i_bb, i_ib, nn_int, nn_non, o_neb, o_eqb, l_lst, l_tup, l_int, k_ft, k_t, y_fl, y_l, a_ints, a_ll, a_fl, a_lf, a_ff, m_app, m_ext, s_lst, callD, takeA, putA, retOk, lendA, ioA, isFz, T.sh, T.shs, shE, D.imm, D.imms, rsvPt, evSet, subT, putT, storeG, st_n, st_t, sts_n, sts_c, allFz, allFzA, tupT, evMmP, evMm, lstAt, wipeT, ownsA, pickL, callSt, evT_lit, evT_sl, evT_gl, evT_op, evT_ch, evT_not, evT_and, evT_or, evT_ife, evT_neg, evT_ix, evT_b1, evT_b2, evT_isi, sizeLine_eq, Function.comp_def]
def mkD (b : Int) (ns : List Int) : List D := (rg 0 b.toNat).map fun i => .bl (decide (i ∈ ns))
theorem d_mkT (b : Int) (ns : List Int) : (mkT b ns).map T.d = mkD b ns := by
  unfold mkT mkD
  rw [List.map_map]
  rfl
theorem at_mk {b i : Int} {ns : List Int} (h0 : 0 ≤ i) (h1 : i < b) : L2.atI (mkD b ns) i = some (.bl (decide (i ∈ ns))) := by
  have hl : (mkD b ns).length = b.toNat := by unfold mkD; rw [List.length_map, rg_len]
  rw [atI_nat h0 (by rw [hl]; omega)]
  unfold mkD rg
  rw [List.getElem?_map, List.getElem?_map, List.getElem?_range (by omega)]
  simp only [Option.map_some]
  have : (0 + (i.toNat : Int)) = i := by omega
  rw [this]
theorem rg_lot {e : Int} {ns : List Int} (l : Lot e ns) : ((rg 0 e.toNat).filter fun s => decide (s ∈ ns)) = ns := by
  have l1 := l.e1
  refine asc_uniq ((rg_asc 0 _).filter _) l.asc fun k => ?_
  rw [List.mem_filter, mem_rg]
  constructor
  · intro h
    simpa using h.2
  · intro h
    have := l.rng k h
    exact ⟨by omega, by simpa using h⟩
end Lw
namespace Lw
open PySem DL
/-! ### waits, in plain numbers -/
def wt (b : Int) (ns : List Int) (x : Int) : Int := match ns with
  | [] => 0
  | n :: r => minI ((n - x) % b) (r.map fun y => (y - x) % b)
theorem wt_all {b x : Int} {ns : List Int} : ∀ y ∈ ns, wt b ns x ≤ (y - x) % b := by
  intro y hy
  cases ns with
  | nil => cases hy
  | cons n r =>
    obtain ⟨m1, m2, _⟩ := minI_le (r.map fun y => (y - x) % b) ((n - x) % b)
    rcases List.mem_cons.mp hy with rfl | hy
    · exact m1
    · exact m2 _ (List.mem_map.mpr ⟨y, hy, rfl⟩)
theorem wt_one {b x : Int} {ns : List Int} (h : ns ≠ []) : ∃ y ∈ ns, wt b ns x = (y - x) % b := by
  cases ns with
  | nil => exact absurd rfl h
  | cons n r =>
    obtain ⟨_, _, m3⟩ := minI_le (r.map fun y => (y - x) % b) ((n - x) % b)
    rcases m3 with h | h
    · exact ⟨n, by simp, h⟩
    · obtain ⟨y, hy, e⟩ := List.mem_map.mp h
      exact ⟨y, by simp [hy], e.symm⟩
theorem wt_rng {b x : Int} {ns : List Int} (h : ns ≠ []) (b1 : 1 ≤ b) : 0 ≤ wt b ns x ∧ wt b ns x < b := by
  obtain ⟨y, _, e⟩ := wt_one (b := b) (x := x) h
  rw [e]
  exact ⟨Int.emod_nonneg _ (by omega), Int.emod_lt_of_pos _ (by omega)⟩
theorem wt_ge {b x : Int} {ns : List Int} (h : ns ≠ []) (l : Lot b ns) (d : Int) : d ≤ wt b ns x ↔ ∀ j, 0 ≤ j → j < d → (x + j) % b ∉ ns := by
  have b1 := l.e1
  constructor
  · intro hd j j0 j1 m
    have a := wt_all (b := b) (x := x) _ m
    have w := (wt_rng (b := b) (x := x) h b1).2
    have e : ((x + j) % b - x) % b = j := by
      rw [Int.emod_sub_emod, show x + j - x = j by omega]
      exact Int.emod_eq_of_lt j0 (by omega)
    omega
  · intro hj
    rcases Int.lt_or_le (wt b ns x) d with c | c
    · exfalso
      obtain ⟨y, hy, e⟩ := wt_one (b := b) (x := x) h
      have w := (wt_rng (b := b) (x := x) h b1).1
      refine hj _ w c ?_
      have y01 := l.rng y hy
      have : (x + wt b ns x) % b = y := by
        rw [e, Int.add_emod_emod, show x + (y - x) = y by omega]
        exact Int.emod_eq_of_lt y01.1 y01.2
      rw [this]
      exact hy
    · exact c
/-- two lots of the same days -/
def SameL (e : Int) (ns : List Int) (e' : Int) (ns' : List Int) : Prop := ∀ x : Int, x % e' ∈ ns' ↔ x % e ∈ ns
theorem SameL.wt {e e' : Int} {ns ns' : List Int} (s : SameL e ns e' ns') (l : Lot e ns) (l' : Lot e' ns') (h : ns ≠ []) (h' : ns' ≠ []) (x : Int) : Lw.wt e' ns' x = Lw.wt e ns x := by
  have k : ∀ d, d ≤ Lw.wt e' ns' x ↔ d ≤ Lw.wt e ns x := fun d => by
    rw [wt_ge h' l', wt_ge h l]
    constructor
    · intro q j j0 j1 m
      exact q j j0 j1 ((s _).mpr m)
    · intro q j j0 j1 m
      exact q j j0 j1 ((s _).mp m)
  exact Int.le_antisymm ((k _).mp (Int.le_refl _)) ((k _).mpr (Int.le_refl _))
theorem wt_mod {b x : Int} {ns : List Int} (h : ns ≠ []) (l : Lot b ns) : Lw.wt b ns (x % b + 1) = Lw.wt b ns (x + 1) := by
  have k : ∀ d, d ≤ Lw.wt b ns (x % b + 1) ↔ d ≤ Lw.wt b ns (x + 1) := fun d => by
    rw [wt_ge h l, wt_ge h l]
    have e : ∀ j, (x % b + 1 + j) % b = (x + 1 + j) % b := fun j => by
      rw [show x % b + 1 + j = x % b + (1 + j) by omega, Int.emod_add_emod, show x + (1 + j) = x + 1 + j by omega]
    constructor
    · intro q j j0 j1
      rw [← e]
      exact q j j0 j1
    · intro q j j0 j1
      rw [e]
      exact q j j0 j1
  exact Int.le_antisymm ((k _).mp (Int.le_refl _)) ((k _).mpr (Int.le_refl _))
/-- v is the greatest wait behind a day of the lot -/
def Wid (b : Int) (ns : List Int) (v : Int) : Prop := ∀ d : Int, d ≤ v ↔ ∃ r ∈ ns, d ≤ wt b ns (r + 1)
theorem Wid.uniq {b v w : Int} {ns : List Int} (h : Wid b ns v) (h' : Wid b ns w) : v = w := Int.le_antisymm ((h' v).mpr ((h v).mp (Int.le_refl _))) ((h w).mpr ((h' w).mp (Int.le_refl _)))
theorem SameL.wid {e e' v : Int} {ns ns' : List Int} (s : SameL e ns e' ns') (l : Lot e ns) (l' : Lot e' ns') (h : ns ≠ []) (h' : ns' ≠ []) (w : Wid e ns v) : Wid e' ns' v := by
  intro d
  rw [w d]
  constructor
  · rintro ⟨r, hr, hd⟩
    have r01 := l.rng r hr
    have m : r % e' ∈ ns' := (s r).mpr (by rw [Int.emod_eq_of_lt r01.1 r01.2]; exact hr)
    refine ⟨_, m, ?_⟩
    rw [wt_mod h' l', s.wt l l' h h']
    exact hd
  · rintro ⟨r, hr, hd⟩
    have r01 := l'.rng r hr
    have m : r % e ∈ ns := (s r).mp (by rw [Int.emod_eq_of_lt r01.1 r01.2]; exact hr)
    refine ⟨_, m, ?_⟩
    rw [wt_mod h l, ← s.wt l l' h h']
    exact hd
theorem SameL.ne {e e' : Int} {ns ns' : List Int} (s : SameL e ns e' ns') (l : Lot e ns) (h : ns ≠ []) : ns' ≠ [] := by
  intro z
  cases ns with
  | nil => exact h rfl
  | cons n r =>
    have n01 := l.rng n (by simp)
    have := (s n).mpr (by rw [Int.emod_eq_of_lt n01.1 n01.2]; simp)
    rw [z] at this
    cases this
/-! the gaps of an ascending list -/
theorem gap_in {b : Int} {pre post : List Int} {r a : Int} (l : Lot b (pre ++ r :: a :: post)) : wt b (pre ++ r :: a :: post) (r + 1) = a - r - 1 := by
  have h : pre ++ r :: a :: post ≠ [] := by simp
  have asc := l.asc
  rw [List.pairwise_append] at asc
  obtain ⟨_, a2, a3⟩ := asc
  rw [List.pairwise_cons, List.pairwise_cons] at a2
  obtain ⟨q1, q2, _⟩ := a2
  have ra := q1 a (by simp)
  have r01 := l.rng r (by simp)
  have a01 := l.rng a (by simp)
  refine Int.le_antisymm ?_ ((wt_ge h l _).mpr fun j j0 j1 m => ?_)
  · have := wt_all (b := b) (x := r + 1) a (show a ∈ pre ++ r :: a :: post by simp)
    rw [show a - (r + 1) = a - r - 1 by omega, Int.emod_eq_of_lt (by omega) (by omega)] at this
    exact this
  · rw [Int.emod_eq_of_lt (by omega) (by omega)] at m
    rcases List.mem_append.mp m with m | m
    · have := a3 _ m r (by simp)
      omega
    · rcases List.mem_cons.mp m with m | m
      · omega
      · rcases List.mem_cons.mp m with m | m
        · omega
        · have := q2 _ m
          omega
theorem gap_end {b : Int} {mid : List Int} {n : Int} : ∀ {t : Int}, Lot b (n :: mid ++ [t]) → wt b (n :: mid ++ [t]) (t + 1) = n + b - t - 1 := by
  intro t l
  have h : n :: mid ++ [t] ≠ [] := by simp
  have asc := l.asc
  rw [List.cons_append, List.pairwise_cons, List.pairwise_append] at asc
  obtain ⟨q1, _, _, q3⟩ := asc
  have nt := q1 t (by simp)
  have n01 := l.rng n (by simp)
  have t01 := l.rng t (by simp)
  refine Int.le_antisymm ?_ ((wt_ge h l _).mpr fun j j0 j1 m => ?_)
  · have := wt_all (b := b) (x := t + 1) n (show n ∈ n :: mid ++ [t] by simp)
    have e : (n - (t + 1)) % b = n + b - t - 1 := by
      rw [← Int.add_emod_right, Int.emod_eq_of_lt (by omega) (by omega)]
      omega
    omega
  · rcases Int.lt_or_le (t + 1 + j) b with c | c
    · rw [Int.emod_eq_of_lt (by omega) c] at m
      rw [List.cons_append] at m
      rcases List.mem_cons.mp m with m | m
      · omega
      · rcases List.mem_append.mp m with m | m
        · have := q3 _ m t (by simp)
          omega
        · rw [List.mem_singleton] at m
          omega
    · have e : (t + 1 + j) % b = t + 1 + j - b := by
        rw [← Int.sub_emod_right, Int.emod_eq_of_lt (by omega) (by omega)]
      rw [e, List.cons_append] at m
      rcases List.mem_cons.mp m with m | m
      · omega
      · have := q1 _ m
        omega
theorem gap_one {b n : Int} (l : Lot b [n]) : wt b [n] (n + 1) = b - 1 := by
  have b1 := l.e1
  show (n - (n + 1)) % b = b - 1
  rw [show n - (n + 1) = -1 by omega, ← Int.add_emod_right, Int.emod_eq_of_lt (by omega) (by omega)]
  omega
/-- pairs with what comes behind, round about -/
theorem gaps_from {b n : Int} : ∀ (rest pre : List Int) (r : Int), pre ++ r :: rest = n :: (pre ++ r :: rest).tail → Lot b (pre ++ r :: rest) → ((r :: rest).zip (rest ++ [n + b])).map (fun p => p.2 - p.1) = (r :: rest).map fun x => wt b (pre ++ r :: rest) (x + 1) + 1
  | [], pre, r, hn, l => by
    simp only [List.nil_append, List.zip_cons_cons, List.zip_nil_left, List.map_cons, List.map_nil]
    congr 1
    cases pre with
    | nil =>
      have e : r = n := by simpa using hn
      subst e
      have := gap_one (b := b) (n := r) l
      show r + b - r = wt b [r] (r + 1) + 1
      rw [this]
      omega
    | cons m mid =>
      have e : m = n := by simpa using hn
      subst e
      have := gap_end (b := b) (mid := mid) (n := m) (t := r) l
      rw [this]
      omega
  | a :: post, pre, r, hn, l => by
    have ih := gaps_from (b := b) (n := n) post (pre ++ [r]) a (by simpa using hn) (by simpa using l)
    have e : pre ++ [r] ++ a :: post = pre ++ r :: a :: post := by simp
    rw [e] at ih
    rw [List.cons_append, List.zip_cons_cons, List.map_cons, List.map_cons, ih]
    congr 1
    rw [gap_in l]
    show a - r = _
    omega
def gapsL (b : Int) (ns : List Int) : List Int := match ns with
  | [] => []
  | n :: r => ((n :: r).zip (r ++ [n + b])).map fun p => p.2 - p.1
theorem gaps_eq {b : Int} {ns : List Int} (l : Lot b ns) : gapsL b ns = ns.map fun x => wt b ns (x + 1) + 1 := by
  cases ns with
  | nil => rfl
  | cons n r => exact gaps_from (b := b) (n := n) r [] n (by simp) l
/-- what widest makes of it -/
def widV (b : Int) (ns : List Int) : Int := match gapsL b ns with
  | [] => 0
  | g :: gs => maxI g gs - 1
theorem maxI_ge (m : Int) (ns : List Int) (d : Int) : d ≤ maxI m ns ↔ ∃ y ∈ m :: ns, d ≤ y := by
  obtain ⟨h1, h2⟩ := maxI_spec ns m
  constructor
  · intro h
    exact ⟨_, h1, h⟩
  · rintro ⟨y, hy, h⟩
    have := h2 y hy
    omega
theorem widV_ok {b : Int} {ns : List Int} (l : Lot b ns) (h : ns ≠ []) : Wid b ns (widV b ns) := by
  intro d
  have e := gaps_eq l
  unfold widV
  cases hg : gapsL b ns with
  | nil =>
    rw [hg] at e
    cases ns with
    | nil => exact absurd rfl h
    | cons n r => cases e
  | cons g gs =>
    show d ≤ maxI g gs - 1 ↔ _
    have := maxI_ge g gs (d + 1)
    rw [← hg, e] at this
    rw [show (d ≤ maxI g gs - 1) ↔ (d + 1 ≤ maxI g gs) by omega, this]
    constructor
    · rintro ⟨y, hy, hd⟩
      obtain ⟨r, hr, rfl⟩ := List.mem_map.mp hy
      exact ⟨r, hr, by omega⟩
    · rintro ⟨r, hr, hd⟩
      exact ⟨_, List.mem_map.mpr ⟨r, hr, rfl⟩, by omega⟩
/-! the longest run of unmarked days, twice round -/
/-- now: the unmarked days up to k; best: the longest such run in the first k -/
structure LgI (M : Int → Prop) (k best now : Int) : Prop where
  n0 : 0 ≤ now
  b0 : now ≤ best
  now_ : ∀ d, 0 ≤ d → (d ≤ now ↔ d ≤ k ∧ ∀ j, k - d ≤ j → j < k → ¬ M j)
  best_ : ∀ d, 0 ≤ d → (d ≤ best ↔ ∃ i, i ≤ k ∧ d ≤ i ∧ ∀ j, i - d ≤ j → j < i → ¬ M j)
theorem LgI.zero (M : Int → Prop) : LgI M 0 0 0 := ⟨by omega, by omega, fun d d0 => ⟨fun h => ⟨h, fun j j0 j1 => by omega⟩, fun h => h.1⟩, fun d d0 => ⟨fun h => ⟨0, by omega, by omega, fun j j0 j1 => by omega⟩, fun ⟨i, i0, i1, _⟩ => by omega⟩⟩
theorem LgI.hit {M : Int → Prop} {k best now : Int} (l : LgI M k best now) (k0 : 0 ≤ k) (h : M k) : LgI M (k + 1) (maxZ best 0) 0 := by
  have hb : maxZ best 0 = best := by
    have := l.n0
    have := l.b0
    unfold maxZ
    split <;> omega
  rw [hb]
  refine ⟨by omega, by have := l.n0; have := l.b0; omega, fun d d0 => ⟨fun hd => ⟨by omega, fun j j0 j1 => by omega⟩, fun ⟨h1, h2⟩ => ?_⟩, fun d d0 => ?_⟩
  · rcases Int.lt_or_le 0 d with c | c
    · exact absurd h (h2 k (by omega) (by omega))
    · exact c
  · rw [l.best_ d d0]
    constructor
    · rintro ⟨i, i0, i1, h2⟩
      exact ⟨i, by omega, i1, h2⟩
    · rintro ⟨i, i0, i1, h2⟩
      rcases Int.lt_or_le k i with c | c
      · have : i = k + 1 := by omega
        subst this
        rcases Int.lt_or_le 0 d with c2 | c2
        · exact absurd h (h2 k (by omega) (by omega))
        · exact ⟨k, by omega, by omega, fun j j0 j1 => by omega⟩
      · exact ⟨i, c, i1, h2⟩
theorem LgI.miss {M : Int → Prop} {k best now : Int} (l : LgI M k best now) (k0 : 0 ≤ k) (h : ¬ M k) : LgI M (k + 1) (maxZ best (now + 1)) (now + 1) := by
  have n' : ∀ d, 0 ≤ d → (d ≤ now + 1 ↔ d ≤ k + 1 ∧ ∀ j, k + 1 - d ≤ j → j < k + 1 → ¬ M j) := fun d d0 => by
    rcases Int.lt_or_le 0 d with c | c
    · have := l.now_ (d - 1) (by omega)
      rw [show (d ≤ now + 1) ↔ (d - 1 ≤ now) by omega, this]
      constructor
      · rintro ⟨h1, h2⟩
        refine ⟨by omega, fun j j0 j1 => ?_⟩
        by_cases e : j = k
        · subst e
          exact h
        · exact h2 j (by omega) (by omega)
      · rintro ⟨h1, h2⟩
        exact ⟨by omega, fun j j0 j1 => h2 j (by omega) (by omega)⟩
    · have := l.n0
      exact ⟨fun _ => ⟨by omega, fun j j0 j1 => by omega⟩, fun _ => by omega⟩
  refine ⟨by have := l.n0; omega, (maxZ_le best (now + 1)).2.1, n', fun d d0 => ?_⟩
  have hm : d ≤ maxZ best (now + 1) ↔ d ≤ best ∨ d ≤ now + 1 := by
    have := maxZ_le best (now + 1)
    omega
  rw [hm, l.best_ d d0, n' d d0]
  constructor
  · rintro (⟨i, i0, i1, h2⟩ | ⟨h1, h2⟩)
    · exact ⟨i, by omega, i1, h2⟩
    · exact ⟨k + 1, by omega, h1, h2⟩
  · rintro ⟨i, i0, i1, h2⟩
    rcases Int.lt_or_le k i with c | c
    · have : i = k + 1 := by omega
      subst this
      exact .inr ⟨i1, h2⟩
    · exact .inl ⟨i, c, i1, h2⟩
/-- the day of the lot ahead of x -/
theorem back_to {b : Int} {ns : List Int} (l : Lot b ns) (h : ns ≠ []) (x : Int) : ∃ c, c < x ∧ x - b ≤ c ∧ c % b ∈ ns ∧ ∀ j, c < j → j < x → j % b ∉ ns := by
  have b1 := l.e1
  cases ns with
  | nil => exact absurd rfl h
  | cons n r =>
    have key : ∀ m : Nat, (∃ j, x - (m : Int) ≤ j ∧ j < x ∧ j % b ∈ n :: r) → ∃ c, c < x ∧ x - (m : Int) ≤ c ∧ c % b ∈ n :: r ∧ ∀ j, c < j → j < x → j % b ∉ n :: r := by
      intro m
      induction m with
      | zero => rintro ⟨j, j0, j1, _⟩; omega
      | succ m ih =>
        rintro ⟨j, j0, j1, hj⟩
        by_cases c : ∃ j, x - (m : Int) ≤ j ∧ j < x ∧ j % b ∈ n :: r
        · obtain ⟨c, c1, c2, c3⟩ := ih c
          exact ⟨c, c1, by omega, c3⟩
        · have : j = x - ((m + 1 : Nat) : Int) := by
            rcases Int.lt_or_le j (x - (m : Int)) with q | q
            · omega
            · exact absurd ⟨j, q, j1, hj⟩ c
          refine ⟨j, j1, j0, hj, fun i i0 i1 hi => c ⟨i, by omega, i1, hi⟩⟩
    have n01 := l.rng n (by simp)
    -- a hit within b days
    have hit : ∃ j, x - (b.toNat : Int) ≤ j ∧ j < x ∧ j % b ∈ n :: r := by
      have m0 := Int.emod_nonneg (x - 1 - n) (show b ≠ 0 by omega)
      have m1 := Int.emod_lt_of_pos (x - 1 - n) (show 0 < b by omega)
      refine ⟨x - 1 - (x - 1 - n) % b, by omega, by omega, ?_⟩
      rw [Int.sub_emod, Int.emod_emod, ← Int.sub_emod, show x - 1 - (x - 1 - n) = n by omega, Int.emod_eq_of_lt n01.1 n01.2]
      simp
    obtain ⟨c, c1, c2, c3⟩ := key b.toNat hit
    exact ⟨c, c1, by omega, c3⟩
theorem lg_wid {b best now : Int} {ns : List Int} (l : Lot b ns) (h : ns ≠ []) (g : LgI (fun j => j % b ∈ ns) (2 * b) best now) : Wid b ns best := by
  have b1 := l.e1
  intro d
  rcases Int.lt_or_le d 0 with c | c
  · constructor
    · intro _
      cases ns with
      | nil => exact absurd rfl h
      | cons n r => exact ⟨n, by simp, by have := (wt_rng (b := b) (x := n + 1) h b1).1; omega⟩
    · intro _
      have := g.n0
      have := g.b0
      omega
  · rw [g.best_ d c]
    constructor
    · rintro ⟨i, i0, i1, hi⟩
      obtain ⟨p, p1, p2, p3, p4⟩ := back_to l h (i - d)
      refine ⟨p % b, p3, ?_⟩
      rw [wt_mod h l, wt_ge h l]
      intro j j0 j1
      rcases Int.lt_or_le (p + 1 + j) (i - d) with q | q
      · exact p4 _ (by omega) q
      · exact hi _ q (by omega)
    · rintro ⟨r, hr, hd⟩
      have r01 := l.rng r hr
      have w := (wt_rng (b := b) (x := r + 1) h b1).2
      rw [wt_ge h l] at hd
      refine ⟨r + 1 + d, ?_, by omega, fun j j0 j1 => ?_⟩
      · have : d < b := by
          rcases Int.lt_or_le d b with q | q
          · exact q
          · exfalso
            refine hd (b - 1) (by omega) (by omega) ?_
            rw [show r + 1 + (b - 1) = r + b by omega, Int.add_emod_right, Int.emod_eq_of_lt r01.1 r01.2]
            exact hr
        omega
      · have := hd (j - (r + 1)) (by omega) (by omega)
        rwa [show r + 1 + (j - (r + 1)) = j by omega] at this
end Lw
namespace Lw
open PySem DL
/-! ### a day, the next one, the widest wait -/
theorem days_ok {a : Int} (a0 : 0 ≤ a) : F_check_days [.fz (.tup [.int a])] = some (.ret (.fz .non) [none]) := by
  rw [F_check_days_eq]
  simp -implicitDefEqProofs [denB, finS, d_check_days, List.range, List.range.loop, forF, B_check_days_1, Int.not_lt.mpr a0, evV1, evKs, pR, fzsR, mvR, callR, callSR, callK0R, callKR, lcR, lc2R, evDs, seqD, DL.augR, mm1R, bfR, ioR, evE, evOe, evEs, evVs, evB, evBs, evI, evS, evSs, andR, orR, bR_ok, bR_ex, bR_no, bE_ok, bE_ex, bE_no, bF_nx, bF_ret, bF_bk, bF_ct, bF_ex, bF_no, oR_s, oR_n, evP, d_fz, d_lst, d_tup, o_add, o_adds, o_sub, o_mul, o_fdiv, o_mod, o_pow, o_lt, o_le, o_gt, o_ge, o_eq, o_ne, o_isN, o_isnN, o_in, o_nin, x_fl, x_ft, x_fs, x_l, x_t, b_lens, b_lenl, b_lent, b_lenr, b_int, b_intb, b_abs, b_min, b_max, t_bl, t_int, t_lst, t_tup, t_non, n_int, z_fz, i_ii, i_bi, i_bb, i_ib, nn_int, nn_non, o_neb, o_eqb, l_lst, l_tup, l_int, k_ft, k_t, y_fl, y_l, a_ints, a_ll, a_fl, a_lf, a_ff, m_app, m_ext, s_lst, callD, takeA, putA, retOk, lendA, ioA, isFz, T.sh, T.shs, shE, D.imm, D.imms, rsvPt, evSet, subT, putT, storeG, st_n, st_t, sts_n, sts_c, allFz, allFzA, tupT, evMmP, evMm, lstAt, wipeT, ownsA, pickL, callSt, evT_lit, evT_sl, evT_gl, evT_op, evT_ch, evT_not, evT_and, evT_or, evT_ife, evT_neg, evT_ix, evT_b1, evT_b2, evT_isi, sizeLine_eq, Function.comp_def]
theorem lot_0 (e : Int) (ns : List Int) : L2.atI [D.int e, D.lst (ns.map D.int)] 0 = some (.int e) := rfl
theorem lot_1 (e : Int) (ns : List Int) : L2.atI [D.int e, D.lst (ns.map D.int)] 1 = some (.lst (ns.map D.int)) := rfl
def nextD (e : Int) (ns : List Int) (d : Int) : D := match ns with
  | [] => .non
  | n :: r => .int (d + wt e (n :: r) d)
theorem next_ok {e d : Int} {ns : List Int} (l : Lot e ns) (d0 : 0 ≤ d) : F_next_day [.fz (lotD e ns), .fz (.int d)] = some (.ret (.fz (nextD e ns d)) [none, none]) := by
  have c1 := check_lots_ok l
  have c2 := days_ok d0
  have ln := l.len
  have e0 : 0 < e := by have := l.e1; omega
  rw [F_next_day_eq]
  cases ns with
  | nil =>
    simp -implicitDefEqProofs [denB, finS, d_next_day, List.range, List.range.loop, Lw.at_2_0, Lw.at_2_1, Lw.at_3_2, Lw.at_6_4, Lw.at_6_5, Lw.at_7_4, Lw.at_12_10, Lw.at_14_10, Lw.at_14_13, Lw.at_15_10, Lw.at_15_14, Lw.at_17_16, Lw.at_19_3, Lw.at_19_6, Lw.at_19_7, Lw.at_19_8, Lw.at_19_10, Lw.at_19_11, Lw.at_19_12, Lw.at_19_15, Lw.at_19_17, Lw.at_19_18, Lw.at_20_9, Lw.at_20_19, c1, c2, nextD, evV1, evKs, pR, fzsR, mvR, callR, callSR, callK0R, callKR, lcR, lc2R, evDs, seqD, DL.augR, mm1R, bfR, ioR, evE, evOe, evEs, evVs, evB, evBs, evI, evS, evSs, andR, orR, bR_ok, bR_ex, bR_no, bE_ok, bE_ex, bE_no, bF_nx, bF_ret, bF_bk, bF_ct, bF_ex, bF_no, oR_s, oR_n, evP, d_fz, d_lst, d_tup, o_add, o_adds, o_sub, o_mul, o_fdiv, o_mod, o_pow, o_lt, o_le, o_gt, o_ge, o_eq, o_ne, o_isN, o_isnN, o_in, o_nin, x_fl, x_ft, x_fs, x_l, x_t, b_lens, b_lenl, b_lent, b_lenr, b_int, b_intb, b_abs, b_min, b_max, t_bl, t_int, t_lst, t_tup, t_non, n_int, z_fz, i_ii, i_bi, i_bb, i_ib, nn_int, nn_non, o_neb, o_eqb, l_lst, l_tup, l_int, k_ft, k_t, y_fl, y_l, a_ints, a_ll, a_fl, a_lf, a_ff, m_app, m_ext, s_lst, callD, takeA, putA, retOk, lendA, ioA, isFz, T.sh, T.shs, shE, D.imm, D.imms, rsvPt, evSet, subT, putT, storeG, st_n, st_t, sts_n, sts_c, allFz, allFzA, tupT, evMmP, evMm, lstAt, wipeT, ownsA, pickL, callSt, evT_lit, evT_sl, evT_gl, evT_op, evT_ch, evT_not, evT_and, evT_or, evT_ife, evT_neg, evT_ix, evT_b1, evT_b2, evT_isi, sizeLine_eq, Function.comp_def]
  | cons n r =>
    have C : lcF (stT (.n 4)) (evBs tb6 CT_next_day_1) (evE tb6 CE_next_day_1) [4] ((n :: r).map D.int) [none, some (.fz (.int d)), some (.fz (.int e)), none, none] [] =
        some (.ok ((n :: r).map fun x => .fz (.int ((x - d) % e))) [none, some (.fz (.int d)), some (.fz (.int e)), none, none]) :=
      lc_m (em := D.int) _ rfl _ (by omega) fun x hx => ⟨[none, some (.fz (.int d)), some (.fz (.int e)), none, some (.fz (.int x))], rfl, rfl, rfl, by simp -implicitDefEqProofs [CE_next_day_1, e0, evV1, evKs, pR, fzsR, mvR, callR, callSR, callK0R, callKR, lcR, lc2R, evDs, seqD, DL.augR, mm1R, bfR, ioR, evE, evOe, evEs, evVs, evB, evBs, evI, evS, evSs, andR, orR, bR_ok, bR_ex, bR_no, bE_ok, bE_ex, bE_no, bF_nx, bF_ret, bF_bk, bF_ct, bF_ex, bF_no, oR_s, oR_n, evP, d_fz, d_lst, d_tup, o_add, o_adds, o_sub, o_mul, o_fdiv, o_mod, o_pow, o_lt, o_le, o_gt, o_ge, o_eq, o_ne, o_isN, o_isnN, o_in, o_nin, x_fl, x_ft, x_fs, x_l, x_t, b_lens, b_lenl, b_lent, b_lenr, b_int, b_intb, b_abs, b_min, b_max, t_bl, t_int, t_lst, t_tup, t_non, n_int, z_fz, i_ii, i_bi, i_bb, i_ib, nn_int, nn_non, o_neb, o_eqb, l_lst, l_tup, l_int, k_ft, k_t, y_fl, y_l, a_ints, a_ll, a_fl, a_lf, a_ff, m_app, m_ext, s_lst, callD, takeA, putA, retOk, lendA, ioA, isFz, T.sh, T.shs, shE, D.imm, D.imms, rsvPt, evSet, subT, putT, storeG, st_n, st_t, sts_n, sts_c, allFz, allFzA, tupT, evMmP, evMm, lstAt, wipeT, ownsA, pickL, callSt, evT_lit, evT_sl, evT_gl, evT_op, evT_ch, evT_not, evT_and, evT_or, evT_ife, evT_neg, evT_ix, evT_b1, evT_b2, evT_isi, sizeLine_eq, Function.comp_def]⟩
    have mn := bf_minL ((n - d) % e) (r.map fun x => (x - d) % e)
    have ei : iT (r.map fun x => (x - d) % e) = r.map fun x => T.fz (.int ((x - d) % e)) := by
      show List.map _ (List.map _ r) = _
      rw [List.map_map]
      rfl
    rw [ei] at mn
    simp only [List.map_cons] at C
    have lp : (0 : Int) < ((r.length + 1 : Nat) : Int) := by omega
    simp -implicitDefEqProofs [denB, finS, d_next_day, List.range, List.range.loop, Lw.at_2_0, Lw.at_2_1, Lw.at_3_2, Lw.at_6_4, Lw.at_6_5, Lw.at_7_4, Lw.at_12_10, Lw.at_14_10, Lw.at_14_13, Lw.at_15_10, Lw.at_15_14, Lw.at_17_16, Lw.at_19_3, Lw.at_19_6, Lw.at_19_7, Lw.at_19_8, Lw.at_19_10, Lw.at_19_11, Lw.at_19_12, Lw.at_19_15, Lw.at_19_17, Lw.at_19_18, Lw.at_20_9, Lw.at_20_19, c1, c2, C, mn, nextD, wt, lp, evV1, evKs, pR, fzsR, mvR, callR, callSR, callK0R, callKR, lcR, lc2R, evDs, seqD, DL.augR, mm1R, bfR, ioR, evE, evOe, evEs, evVs, evB, evBs, evI, evS, evSs, andR, orR, bR_ok, bR_ex, bR_no, bE_ok, bE_ex, bE_no, bF_nx, bF_ret, bF_bk, bF_ct, bF_ex, bF_no, oR_s, oR_n, evP, d_fz, d_lst, d_tup, o_add, o_adds, o_sub, o_mul, o_fdiv, o_mod, o_pow, o_lt, o_le, o_gt, o_ge, o_eq, o_ne, o_isN, o_isnN, o_in, o_nin, x_fl, x_ft, x_fs, x_l, x_t, b_lens, b_lenl, b_lent, b_lenr, b_int, b_intb, b_abs, b_min, b_max, t_bl, t_int, t_lst, t_tup, t_non, n_int, z_fz, i_ii, i_bi, i_bb, i_ib, nn_int, nn_non, o_neb, o_eqb, l_lst, l_tup, l_int, k_ft, k_t, y_fl, y_l, a_ints, a_ll, a_fl, a_lf, a_ff, m_app, m_ext, s_lst, callD, takeA, putA, retOk, lendA, ioA, isFz, T.sh, T.shs, shE, D.imm, D.imms, rsvPt, evSet, subT, putT, storeG, st_n, st_t, sts_n, sts_c, allFz, allFzA, tupT, evMmP, evMm, lstAt, wipeT, ownsA, pickL, callSt, evT_lit, evT_sl, evT_gl, evT_op, evT_ch, evT_not, evT_and, evT_or, evT_ife, evT_neg, evT_ix, evT_b1, evT_b2, evT_isi, sizeLine_eq, Function.comp_def]
theorem bf_maxL (n : Int) (ns : List Int) : bfT .max [.lst (T.fz (.int n) :: iT ns)] = some (.fz (.int (maxI n ns))) := by
  have z : (lstDs (.lst (T.fz (.int n) :: iT ns))).bind intsD = some (n :: ns) := by
    rw [ld_l, show (T.fz (.int n) :: iT ns).map T.d = (n :: ns).map D.int from d_iT (n :: ns)]
    exact intsD_i (n :: ns)
  show (match (lstDs (.lst (T.fz (.int n) :: iT ns))).bind intsD with
    | some (n :: ns) => some (T.fz (.int (maxI n ns)))
    | _ => none) = _
  rw [z]
def widD (e : Int) (ns : List Int) : D := match ns with
  | [] => .non
  | n :: r => .int (widV e (n :: r))
theorem widest_ok {e : Int} {ns : List Int} {o : T} (l : Lot e ns) (hd : o.d = lotD e ns) : F_widest [o] = some (.ret (.fz (widD e ns)) [none]) := by
  have c1 := check_lots_ok l
  have ln := l.len
  have e0 : 0 < e := by have := l.e1; omega
  rw [F_widest_eq]
  cases ns with
  | nil =>
    simp -implicitDefEqProofs [denB, finS, d_widest, List.range, List.range.loop, Lw.at_2_0, Lw.at_2_1, Lw.at_3_2, Lw.at_6_4, Lw.at_6_5, Lw.at_7_4, Lw.at_12_10, Lw.at_14_10, Lw.at_14_13, Lw.at_15_10, Lw.at_15_14, Lw.at_17_16, Lw.at_19_3, Lw.at_19_6, Lw.at_19_7, Lw.at_19_8, Lw.at_19_10, Lw.at_19_11, Lw.at_19_12, Lw.at_19_15, Lw.at_19_17, Lw.at_19_18, Lw.at_20_9, Lw.at_20_19, hd, c1, widD, evV1, evKs, pR, fzsR, mvR, callR, callSR, callK0R, callKR, lcR, lc2R, evDs, seqD, DL.augR, mm1R, bfR, ioR, evE, evOe, evEs, evVs, evB, evBs, evI, evS, evSs, andR, orR, bR_ok, bR_ex, bR_no, bE_ok, bE_ex, bE_no, bF_nx, bF_ret, bF_bk, bF_ct, bF_ex, bF_no, oR_s, oR_n, evP, d_fz, d_lst, d_tup, o_add, o_adds, o_sub, o_mul, o_fdiv, o_mod, o_pow, o_lt, o_le, o_gt, o_ge, o_eq, o_ne, o_isN, o_isnN, o_in, o_nin, x_fl, x_ft, x_fs, x_l, x_t, b_lens, b_lenl, b_lent, b_lenr, b_int, b_intb, b_abs, b_min, b_max, t_bl, t_int, t_lst, t_tup, t_non, n_int, z_fz, i_ii, i_bi, i_bb, i_ib, nn_int, nn_non, o_neb, o_eqb, l_lst, l_tup, l_int, k_ft, k_t, y_fl, y_l, a_ints, a_ll, a_fl, a_lf, a_ff, m_app, m_ext, s_lst, callD, takeA, putA, retOk, lendA, ioA, isFz, T.sh, T.shs, shE, D.imm, D.imms, rsvPt, evSet, subT, putT, storeG, st_n, st_t, sts_n, sts_c, allFz, allFzA, tupT, evMmP, evMm, lstAt, wipeT, ownsA, pickL, callSt, evT_lit, evT_sl, evT_gl, evT_op, evT_ch, evT_not, evT_and, evT_or, evT_ife, evT_neg, evT_ix, evT_b1, evT_b2, evT_isi, sizeLine_eq, Function.comp_def]
  | cons n r =>
    rw [List.length_cons] at ln
    have C : lcF (stT (.t (.cons (.n 4) (.cons (.n 5) .nil)))) (evBs tb7 CT_widest_1) (evE tb7 CE_widest_1) [4, 5] (((n :: r).zip (r ++ [n + e])).map fun p => D.tup [.int p.1, .int p.2]) [none, none, some (.fz (.int e)), none, none, none] [] =
        some (.ok (((n :: r).zip (r ++ [n + e])).map fun p => .fz (.int (p.2 - p.1))) [none, none, some (.fz (.int e)), none, none, none]) :=
      lc_m (em := fun p : Int × Int => D.tup [.int p.1, .int p.2]) _ rfl _ (by rw [List.length_zip, List.length_cons]; omega) fun x _ => ⟨[none, none, some (.fz (.int e)), none, some (.fz (.int x.1)), some (.fz (.int x.2))], rfl, rfl, rfl, by simp -implicitDefEqProofs [CE_widest_1, evV1, evKs, pR, fzsR, mvR, callR, callSR, callK0R, callKR, lcR, lc2R, evDs, seqD, DL.augR, mm1R, bfR, ioR, evE, evOe, evEs, evVs, evB, evBs, evI, evS, evSs, andR, orR, bR_ok, bR_ex, bR_no, bE_ok, bE_ex, bE_no, bF_nx, bF_ret, bF_bk, bF_ct, bF_ex, bF_no, oR_s, oR_n, evP, d_fz, d_lst, d_tup, o_add, o_adds, o_sub, o_mul, o_fdiv, o_mod, o_pow, o_lt, o_le, o_gt, o_ge, o_eq, o_ne, o_isN, o_isnN, o_in, o_nin, x_fl, x_ft, x_fs, x_l, x_t, b_lens, b_lenl, b_lent, b_lenr, b_int, b_intb, b_abs, b_min, b_max, t_bl, t_int, t_lst, t_tup, t_non, n_int, z_fz, i_ii, i_bi, i_bb, i_ib, nn_int, nn_non, o_neb, o_eqb, l_lst, l_tup, l_int, k_ft, k_t, y_fl, y_l, a_ints, a_ll, a_fl, a_lf, a_ff, m_app, m_ext, s_lst, callD, takeA, putA, retOk, lendA, ioA, isFz, T.sh, T.shs, shE, D.imm, D.imms, rsvPt, evSet, subT, putT, storeG, st_n, st_t, sts_n, sts_c, allFz, allFzA, tupT, evMmP, evMm, lstAt, wipeT, ownsA, pickL, callSt, evT_lit, evT_sl, evT_gl, evT_op, evT_ch, evT_not, evT_and, evT_or, evT_ife, evT_neg, evT_ix, evT_b1, evT_b2, evT_isi, sizeLine_eq, Function.comp_def]⟩
    have Z := zip_i (n :: r) (r ++ [n + e])
    rw [← Z] at C
    have sl : sliceT (.fz (.lst ((n :: r).map D.int))) (some 1) none = some (.lst (iT r)) := by
      rw [sl_f, cut_1]
      simp [iT]
    have a0 : L2.atI ((n :: r).map D.int) 0 = some (.int n) := by
      rw [atI_nat (by decide) (by simp only [List.length_map, List.length_cons]; omega)]
      rfl
    have lp : (0 : Int) < ((r.length + 1 : Nat) : Int) := by omega
    have dm : (iT r).map T.d = r.map D.int := d_iT r
    have mx : bfT .max [.lst (((n :: r).zip (r ++ [n + e])).map fun p => T.fz (.int (p.2 - p.1)))] = some (.fz (.int (widV e (n :: r) + 1))) := by
      have q : (((n :: r).zip (r ++ [n + e])).map fun p => T.fz (.int (p.2 - p.1))) = iT (gapsL e (n :: r)) := by
        show _ = List.map _ (List.map _ _)
        rw [List.map_map]
        rfl
      rw [q]
      unfold widV
      cases hg : gapsL e (n :: r) with
      | nil => cases r <;> cases hg
      | cons g gs =>
        show bfT .max [.lst (T.fz (.int g) :: iT gs)] = _
        rw [bf_maxL]
        show _ = some (T.fz (.int (maxI g gs - 1 + 1)))
        congr 3
        omega
    generalize hL : ((n :: r).map D.int) = L at *
    simp only [List.map_append, List.map_cons, List.map_nil] at C
    have hl : L.length = r.length + 1 := by rw [← hL]; simp
    have hn : ¬ ((r.length : Int) + 1 = 0) := by omega
    have sz : r.length + 1 ≤ 16777216 := by omega
    have lm : (List.map D.int r).map T.fz ++ [T.fz (.int (n + e))] = iT (r ++ [n + e]) := by simp [iT]
    have dl : (iT (r ++ [n + e])).map T.d = (r ++ [n + e]).map D.int := d_iT _
    have ll : (iT r).length = r.length := by simp [iT]
    have c1' : F_check_lots [.fz (.tup [.tup [.int e, .lst L]])] = some (.ret (.fz .non) [none]) := by rw [← hL]; exact c1
    have hd' : o.d = .tup [.int e, .lst L] := by rw [← hL]; exact hd
    clear hd
    simp -implicitDefEqProofs [denB, finS, d_widest, List.range, List.range.loop, Lw.at_2_0, Lw.at_2_1, Lw.at_3_2, Lw.at_6_4, Lw.at_6_5, Lw.at_7_4, Lw.at_12_10, Lw.at_14_10, Lw.at_14_13, Lw.at_15_10, Lw.at_15_14, Lw.at_17_16, Lw.at_19_3, Lw.at_19_6, Lw.at_19_7, Lw.at_19_8, Lw.at_19_10, Lw.at_19_11, Lw.at_19_12, Lw.at_19_15, Lw.at_19_17, Lw.at_19_18, Lw.at_20_9, Lw.at_20_19, hd', c1', hl, hn, sl, a0, dm, lm, dl, ll, sz, zip_l, C, mx, widD, evV1, evKs, pR, fzsR, mvR, callR, callSR, callK0R, callKR, lcR, lc2R, evDs, seqD, DL.augR, mm1R, bfR, ioR, evE, evOe, evEs, evVs, evB, evBs, evI, evS, evSs, andR, orR, bR_ok, bR_ex, bR_no, bE_ok, bE_ex, bE_no, bF_nx, bF_ret, bF_bk, bF_ct, bF_ex, bF_no, oR_s, oR_n, evP, d_fz, d_lst, d_tup, o_add, o_adds, o_sub, o_mul, o_fdiv, o_mod, o_pow, o_lt, o_le, o_gt, o_ge, o_eq, o_ne, o_isN, o_isnN, o_in, o_nin, x_fl, x_ft, x_fs, x_l, x_t, b_lens, b_lenl, b_lent, b_lenr, b_int, b_intb, b_abs, b_min, b_max, t_bl, t_int, t_lst, t_tup, t_non, n_int, z_fz, i_ii, i_bi, i_bb, i_ib, nn_int, nn_non, o_neb, o_eqb, l_lst, l_tup, l_int, k_ft, k_t, y_fl, y_l, a_ints, a_ll, a_fl, a_lf, a_ff, m_app, m_ext, s_lst, callD, takeA, putA, retOk, lendA, ioA, isFz, T.sh, T.shs, shE, D.imm, D.imms, rsvPt, evSet, subT, putT, storeG, st_n, st_t, sts_n, sts_c, allFz, allFzA, tupT, evMmP, evMm, lstAt, wipeT, ownsA, pickL, callSt, evT_lit, evT_sl, evT_gl, evT_op, evT_ch, evT_not, evT_and, evT_or, evT_ife, evT_neg, evT_ix, evT_b1, evT_b2, evT_isi, sizeLine_eq, Function.comp_def]
    done
end Lw
namespace Lw
open PySem DL
/-! ### the least number of a lot -/
theorem div_down {e p : Int} (e1 : 1 ≤ e) (p2 : 2 ≤ p) (h : e % p = 0) : 1 ≤ e / p ∧ e / p < e ∧ e = p * (e / p) := by
  have := Int.emod_add_mul_ediv e p
  have k : e = p * (e / p) := by omega
  generalize e / p = q at *
  have q1 : 1 ≤ q := by
    rcases Int.lt_or_le q 1 with c | c
    · have : p * q ≤ p * 0 := Int.mul_le_mul_of_nonneg_left (by omega) (by omega)
      omega
    · exact c
  have : 2 * q ≤ p * q := Int.mul_le_mul_of_nonneg_right p2 (by omega)
  exact ⟨q1, by omega, k⟩
theorem pp_while {p : Int} {o1 o2 : Option T} (p2 : 2 ≤ p) (p3 : p ≤ 100000) : ∀ (m : Nat) (e : Int), e.toNat ≤ m → 1 ≤ e → e ≤ 5040 → ∃ e', 1 ≤ e' ∧ e' ≤ 5040 ∧ whileF (evB tb0 BW_prime_parts_1) (evSs tb0 B_prime_parts_1) [some (.fz (.int e)), o1, o2, some (.fz (.int p))] = some (.nx [some (.fz (.int e')), o1, o2, some (.fz (.int p))])
  | 0, e, h, e1, _ => by omega
  | m + 1, e, h, e1, e2 => by
    have p0 : 0 < p := by omega
    have dv : divB p = true := divB_le p0 (by omega)
    rw [whileF_eq]
    by_cases c : e % p = 0
    · obtain ⟨q1, q2, _⟩ := div_down e1 p2 c
      obtain ⟨e', r1, r2, r3⟩ := pp_while (o1 := o1) (o2 := o2) p2 p3 m (e / p) (by omega) q1 (by omega)
      refine ⟨e', r1, r2, ?_⟩
      simp -implicitDefEqProofs [BW_prime_parts_1, B_prime_parts_1, p0, c, dv, evV1, evKs, pR, fzsR, mvR, callR, callSR, callK0R, callKR, lcR, lc2R, evDs, seqD, DL.augR, mm1R, bfR, ioR, evE, evOe, evEs, evVs, evB, evBs, evI, evS, evSs, andR, orR, bR_ok, bR_ex, bR_no, bE_ok, bE_ex, bE_no, bF_nx, bF_ret, bF_bk, bF_ct, bF_ex, bF_no, oR_s, oR_n, evP, d_fz, d_lst, d_tup, o_add, o_adds, o_sub, o_mul, o_fdiv, o_mod, o_pow, o_lt, o_le, o_gt, o_ge, o_eq, o_ne, o_isN, o_isnN, o_in, o_nin, x_fl, x_ft, x_fs, x_l, x_t, b_lens, b_lenl, b_lent, b_lenr, b_int, b_intb, b_abs, b_min, b_max, t_bl, t_int, t_lst, t_tup, t_non, n_int, z_fz, i_ii, i_bi, i_bb, i_ib, nn_int, nn_non, o_neb, o_eqb, l_lst, l_tup, l_int, k_ft, k_t, y_fl, y_l, a_ints, a_ll, a_fl, a_lf, a_ff, m_app, m_ext, s_lst, callD, takeA, putA, retOk, lendA, ioA, isFz, T.sh, T.shs, shE, D.imm, D.imms, rsvPt, evSet, subT, putT, storeG, st_n, st_t, sts_n, sts_c, allFz, allFzA, tupT, evMmP, evMm, lstAt, wipeT, ownsA, pickL, callSt, evT_lit, evT_sl, evT_gl, evT_op, evT_ch, evT_not, evT_and, evT_or, evT_ife, evT_neg, evT_ix, evT_b1, evT_b2, evT_isi, sizeLine_eq, Function.comp_def]
      exact r3
    · refine ⟨e, e1, e2, ?_⟩
      simp -implicitDefEqProofs [BW_prime_parts_1, B_prime_parts_1, p0, c, dv, evV1, evKs, pR, fzsR, mvR, callR, callSR, callK0R, callKR, lcR, lc2R, evDs, seqD, DL.augR, mm1R, bfR, ioR, evE, evOe, evEs, evVs, evB, evBs, evI, evS, evSs, andR, orR, bR_ok, bR_ex, bR_no, bE_ok, bE_ex, bE_no, bF_nx, bF_ret, bF_bk, bF_ct, bF_ex, bF_no, oR_s, oR_n, evP, d_fz, d_lst, d_tup, o_add, o_adds, o_sub, o_mul, o_fdiv, o_mod, o_pow, o_lt, o_le, o_gt, o_ge, o_eq, o_ne, o_isN, o_isnN, o_in, o_nin, x_fl, x_ft, x_fs, x_l, x_t, b_lens, b_lenl, b_lent, b_lenr, b_int, b_intb, b_abs, b_min, b_max, t_bl, t_int, t_lst, t_tup, t_non, n_int, z_fz, i_ii, i_bi, i_bb, i_ib, nn_int, nn_non, o_neb, o_eqb, l_lst, l_tup, l_int, k_ft, k_t, y_fl, y_l, a_ints, a_ll, a_fl, a_lf, a_ff, m_app, m_ext, s_lst, callD, takeA, putA, retOk, lendA, ioA, isFz, T.sh, T.shs, shE, D.imm, D.imms, rsvPt, evSet, subT, putT, storeG, st_n, st_t, sts_n, sts_c, allFz, allFzA, tupT, evMmP, evMm, lstAt, wipeT, ownsA, pickL, callSt, evT_lit, evT_sl, evT_gl, evT_op, evT_ch, evT_not, evT_and, evT_or, evT_ife, evT_neg, evT_ix, evT_b1, evT_b2, evT_isi, sizeLine_eq, Function.comp_def]
theorem parts_of {e m : Int} (e1 : 1 ≤ e) (e2 : e ≤ 5040) (m0 : 0 ≤ m) (m1 : m ≤ 5040) : ∃ ps : List Int, (∀ p ∈ ps, 2 ≤ p ∧ p ≤ 5040) ∧ F_prime_parts [.fz (.int e), .fz (.int m)] = some (.ret (.lst (iT ps)) [none, none]) := by
  have rr := r2 (i := 2) (j := m + 1) (by decide) (by decide) (by omega) (by omega)
  have L : ∃ ρ', forF (stT (.n 3)) (evSs tb0 B_prime_parts_2) ((rg 2 (m + 1 - 2).toNat).map D.int) [some (.fz (.int e)), some (.fz (.int m)), some (.lst []), none] = some (.nx ρ') ∧
      ∃ (e' : Int) (ps : List Int) (o3 : Option T), 1 ≤ e' ∧ e' ≤ 5040 ∧ ps.length ≤ (rg 2 (m + 1 - 2).toNat).length ∧ (∀ p ∈ ps, 2 ≤ p ∧ p ≤ 5040) ∧ ρ' = [some (.fz (.int e')), some (.fz (.int m)), some (.lst (iT ps)), o3] := by
    refine for_ints (fun done rest ρ' => ∃ (e' : Int) (ps : List Int) (o3 : Option T), 1 ≤ e' ∧ e' ≤ 5040 ∧ ps.length ≤ done.length ∧ (∀ p ∈ ps, 2 ≤ p ∧ p ≤ 5040) ∧ ρ' = [some (.fz (.int e')), some (.fz (.int m)), some (.lst (iT ps)), o3]) ⟨e, [], none, e1, e2, Nat.le_refl _, (fun _ z => nomatch z), rfl⟩ ?_
    rintro done p rest ρ ed ⟨e', ps, o3, h1, h2, h3, h4, rfl⟩
    have pm : p ∈ rg 2 (m + 1 - 2).toNat := by rw [ed]; simp
    have p23 := mem_rg.mp pm
    have p0 : 0 < p := by omega
    have hl : (rg 2 (m + 1 - 2).toNat).length = done.length + (p :: rest).length := by rw [ed, List.length_append]
    rw [rg_len, List.length_cons] at hl
    have sz : ps.length < 16777216 := by omega
    by_cases c : e' % p = 0
    · obtain ⟨e'', r1, r2, r3⟩ := pp_while (p := p) (o1 := some (.fz (.int m))) (o2 := some (.lst (iT ps ++ [.fz (.int p)]))) (by omega) (by omega) e'.toNat e' (Nat.le_refl _) h1 h2
      refine ⟨_, rfl, _, .inl ?_, e'', ps ++ [p], some (.fz (.int p)), r1, r2, by simp; omega, fun q hq => ?_, rfl⟩
      · have e5 : iT (ps ++ [p]) = iT ps ++ [.fz (.int p)] := by simp [iT]
        rw [e5]
        simp -implicitDefEqProofs [B_prime_parts_2, p0, c, sz, r3, evV1, evKs, pR, fzsR, mvR, callR, callSR, callK0R, callKR, lcR, lc2R, evDs, seqD, DL.augR, mm1R, bfR, ioR, evE, evOe, evEs, evVs, evB, evBs, evI, evS, evSs, andR, orR, bR_ok, bR_ex, bR_no, bE_ok, bE_ex, bE_no, bF_nx, bF_ret, bF_bk, bF_ct, bF_ex, bF_no, oR_s, oR_n, evP, d_fz, d_lst, d_tup, o_add, o_adds, o_sub, o_mul, o_fdiv, o_mod, o_pow, o_lt, o_le, o_gt, o_ge, o_eq, o_ne, o_isN, o_isnN, o_in, o_nin, x_fl, x_ft, x_fs, x_l, x_t, b_lens, b_lenl, b_lent, b_lenr, b_int, b_intb, b_abs, b_min, b_max, t_bl, t_int, t_lst, t_tup, t_non, n_int, z_fz, i_ii, i_bi, i_bb, i_ib, nn_int, nn_non, o_neb, o_eqb, l_lst, l_tup, l_int, k_ft, k_t, y_fl, y_l, a_ints, a_ll, a_fl, a_lf, a_ff, m_app, m_ext, s_lst, callD, takeA, putA, retOk, lendA, ioA, isFz, T.sh, T.shs, shE, D.imm, D.imms, rsvPt, evSet, subT, putT, storeG, st_n, st_t, sts_n, sts_c, allFz, allFzA, tupT, evMmP, evMm, lstAt, wipeT, ownsA, pickL, callSt, evT_lit, evT_sl, evT_gl, evT_op, evT_ch, evT_not, evT_and, evT_or, evT_ife, evT_neg, evT_ix, evT_b1, evT_b2, evT_isi, sizeLine_eq, Function.comp_def]
      · rcases List.mem_append.mp hq with hq | hq
        · exact h4 q hq
        · rw [List.mem_singleton] at hq
          omega
    · refine ⟨_, rfl, _, .inl ?_, e', ps, some (.fz (.int p)), h1, h2, by simp; omega, h4, rfl⟩
      simp -implicitDefEqProofs [B_prime_parts_2, p0, c, evV1, evKs, pR, fzsR, mvR, callR, callSR, callK0R, callKR, lcR, lc2R, evDs, seqD, DL.augR, mm1R, bfR, ioR, evE, evOe, evEs, evVs, evB, evBs, evI, evS, evSs, andR, orR, bR_ok, bR_ex, bR_no, bE_ok, bE_ex, bE_no, bF_nx, bF_ret, bF_bk, bF_ct, bF_ex, bF_no, oR_s, oR_n, evP, d_fz, d_lst, d_tup, o_add, o_adds, o_sub, o_mul, o_fdiv, o_mod, o_pow, o_lt, o_le, o_gt, o_ge, o_eq, o_ne, o_isN, o_isnN, o_in, o_nin, x_fl, x_ft, x_fs, x_l, x_t, b_lens, b_lenl, b_lent, b_lenr, b_int, b_intb, b_abs, b_min, b_max, t_bl, t_int, t_lst, t_tup, t_non, n_int, z_fz, i_ii, i_bi, i_bb, i_ib, nn_int, nn_non, o_neb, o_eqb, l_lst, l_tup, l_int, k_ft, k_t, y_fl, y_l, a_ints, a_ll, a_fl, a_lf, a_ff, m_app, m_ext, s_lst, callD, takeA, putA, retOk, lendA, ioA, isFz, T.sh, T.shs, shE, D.imm, D.imms, rsvPt, evSet, subT, putT, storeG, st_n, st_t, sts_n, sts_c, allFz, allFzA, tupT, evMmP, evMm, lstAt, wipeT, ownsA, pickL, callSt, evT_lit, evT_sl, evT_gl, evT_op, evT_ch, evT_not, evT_and, evT_or, evT_ife, evT_neg, evT_ix, evT_b1, evT_b2, evT_isi, sizeLine_eq, Function.comp_def]
  obtain ⟨ρ', e1', e', ps, o3, h1, h2, _, h4, rfl⟩ := L
  refine ⟨ps, h4, ?_⟩
  rw [F_prime_parts_eq]
  simp -implicitDefEqProofs [denB, finS, d_prime_parts, List.range, List.range.loop, rr, e1', evV1, evKs, pR, fzsR, mvR, callR, callSR, callK0R, callKR, lcR, lc2R, evDs, seqD, DL.augR, mm1R, bfR, ioR, evE, evOe, evEs, evVs, evB, evBs, evI, evS, evSs, andR, orR, bR_ok, bR_ex, bR_no, bE_ok, bE_ex, bE_no, bF_nx, bF_ret, bF_bk, bF_ct, bF_ex, bF_no, oR_s, oR_n, evP, d_fz, d_lst, d_tup, o_add, o_adds, o_sub, o_mul, o_fdiv, o_mod, o_pow, o_lt, o_le, o_gt, o_ge, o_eq, o_ne, o_isN, o_isnN, o_in, o_nin, x_fl, x_ft, x_fs, x_l, x_t, b_lens, b_lenl, b_lent, b_lenr, b_int, b_intb, b_abs, b_min, b_max, t_bl, t_int, t_lst, t_tup, t_non, n_int, z_fz, i_ii, i_bi, i_bb, i_ib, nn_int, nn_non, o_neb, o_eqb, l_lst, l_tup, l_int, k_ft, k_t, y_fl, y_l, a_ints, a_ll, a_fl, a_lf, a_ff, m_app, m_ext, s_lst, callD, takeA, putA, retOk, lendA, ioA, isFz, T.sh, T.shs, shE, D.imm, D.imms, rsvPt, evSet, subT, putT, storeG, st_n, st_t, sts_n, sts_c, allFz, allFzA, tupT, evMmP, evMm, lstAt, wipeT, ownsA, pickL, callSt, evT_lit, evT_sl, evT_gl, evT_op, evT_ch, evT_not, evT_and, evT_or, evT_ife, evT_neg, evT_ix, evT_b1, evT_b2, evT_isi, sizeLine_eq, Function.comp_def]
end Lw
namespace Lw
open PySem DL
/-! ### the told lot -/
def spr (s : Int) (q : Nat) (kept : List Int) : List Int := (rgm s q).flatMap fun st => kept.map fun r => st + r
theorem flat_len (kept : List Int) (g : Int → Int → T) : ∀ xs : List Int, (xs.flatMap fun x => kept.map (g x)).length = xs.length * kept.length
  | [] => by simp
  | x :: xs => by
    rw [List.flatMap_cons, List.length_append, flat_len kept g xs, List.length_map, List.length_cons, Nat.add_mul]
    omega
theorem kept_len {e s : Int} {ns : List Int} (l : Lot e ns) (s0 : 0 ≤ s) : ((ns.filter fun x => decide (x < s)).length : Int) ≤ s :=
  len_lt s0 (l.asc.filter _) fun x hx => by
    obtain ⟨h1, h2⟩ := List.mem_filter.mp hx
    exact ⟨(l.rng x h1).1, of_decide_eq_true h2⟩
theorem goes_ok {s e : Int} {q : Nat} {ns : List Int} (l : Lot e ns) (s1 : 1 ≤ s) (h : e = s * q) : F_goes_round [.fz (.int s), .fz (.int e), .fz (.lst (ns.map D.int))] = some (.ret (.fz (.bl (decide (ns = spr s q (ns.filter fun x => decide (x < s)))))) [none, none, none]) := by
  have l1 := l.e1
  have l2 := l.e2
  have ln := l.len
  have kl := kept_len (s := s) l (by omega)
  have s2 : s ≤ e := by
    have q1 : (1 : Int) ≤ q := by
      rcases Int.lt_or_le (q : Int) 1 with c | c
      · have : (q : Int) = 0 := by omega
        rw [this] at h
        omega
      · exact c
    have : s * 1 ≤ s * q := Int.mul_le_mul_of_nonneg_left q1 (by omega)
    omega
  have rr := r3 (q := q) s1 (by omega) (show 0 ≤ e by omega) (by omega) h
  have C1 : lcF (stT (.n 4)) (evBs tb1 CT_goes_round_1) (evE tb1 CE_goes_round_1) [4] (ns.map D.int) [some (.fz (.int s)), some (.fz (.int e)), some (.fz (.lst (ns.map D.int))), none, none, none] [] =
      some (.ok ((ns.filter fun x => decide (x < s)).map fun x => .fz (.int x)) [some (.fz (.int s)), some (.fz (.int e)), some (.fz (.lst (ns.map D.int))), none, none, none]) :=
    lc_p (em := D.int) _ _ rfl _ (by omega) fun x _ => ⟨[some (.fz (.int s)), some (.fz (.int e)), some (.fz (.lst (ns.map D.int))), none, some (.fz (.int x)), none], rfl, rfl, by simp -implicitDefEqProofs [CT_goes_round_1, evV1, evKs, pR, fzsR, mvR, callR, callSR, callK0R, callKR, lcR, lc2R, evDs, seqD, DL.augR, mm1R, bfR, ioR, evE, evOe, evEs, evVs, evB, evBs, evI, evS, evSs, andR, orR, bR_ok, bR_ex, bR_no, bE_ok, bE_ex, bE_no, bF_nx, bF_ret, bF_bk, bF_ct, bF_ex, bF_no, oR_s, oR_n, evP, d_fz, d_lst, d_tup, o_add, o_adds, o_sub, o_mul, o_fdiv, o_mod, o_pow, o_lt, o_le, o_gt, o_ge, o_eq, o_ne, o_isN, o_isnN, o_in, o_nin, x_fl, x_ft, x_fs, x_l, x_t, b_lens, b_lenl, b_lent, b_lenr, b_int, b_intb, b_abs, b_min, b_max, t_bl, t_int, t_lst, t_tup, t_non, n_int, z_fz, i_ii, i_bi, i_bb, i_ib, nn_int, nn_non, o_neb, o_eqb, l_lst, l_tup, l_int, k_ft, k_t, y_fl, y_l, a_ints, a_ll, a_fl, a_lf, a_ff, m_app, m_ext, s_lst, callD, takeA, putA, retOk, lendA, ioA, isFz, T.sh, T.shs, shE, D.imm, D.imms, rsvPt, evSet, subT, putT, storeG, st_n, st_t, sts_n, sts_c, allFz, allFzA, tupT, evMmP, evMm, lstAt, wipeT, ownsA, pickL, callSt, evT_lit, evT_sl, evT_gl, evT_op, evT_ch, evT_not, evT_and, evT_or, evT_ife, evT_neg, evT_ix, evT_b1, evT_b2, evT_isi, sizeLine_eq, Function.comp_def], fun _ => rfl⟩
  generalize hk : (ns.filter fun x => decide (x < s)) = kept at *
  have tot : ((rgm s q).length * kept.length : Nat) ≤ 5040 := by
    have e1 : (rgm s q).length = q := by simp [rgm]
    rw [e1]
    have : (q : Int) * (kept.length : Int) ≤ (q : Int) * s := Int.mul_le_mul_of_nonneg_left kl (by omega)
    rw [Int.mul_comm (q : Int) s, ← h] at this
    have e2 : ((q * kept.length : Nat) : Int) = (q : Int) * (kept.length : Int) := by simp
    omega
  have kl' : kept.length ≤ 5040 := by omega
  have C2 := lc2_two (st := stT (.n 5)) (ft := evBs tb1 CT_goes_round_2) (fi1 := evI tb1 CI_goes_round_2) (st1 := stT (.n 4)) (ft1 := evBs tb1 CU_goes_round_2) (fe := evE tb1 CE_goes_round_2) (vs := [5, 4]) (vs1 := [4])
    (fun ρ => ∃ o, o.d = .lst (kept.map D.int) ∧ ρ = [some (.fz (.int s)), some (.fz (.int e)), none, some o, none, none]) (fun st => kept.map fun r => T.fz (.int (st + r))) (rgm s q) [some (.fz (.int s)), some (.fz (.int e)), none, some (.lst (kept.map fun x => .fz (.int x))), none, none] []
    ⟨_, by rw [d_lst, List.map_map]; rfl, rfl⟩ (by rw [flat_len kept (fun st r => T.fz (.int (st + r)))]; simp only [List.length_nil]; omega) (by
      rintro x hx ρ acc ⟨o, ho, rfl⟩ hl
      rw [List.length_map] at hl
      refine ⟨_, [some (.fz (.int s)), some (.fz (.int e)), none, some o, none, some (.fz (.int x))], kept.map D.int, [some (.fz (.int s)), some (.fz (.int e)), none, some (.fz (.lst (kept.map D.int))), none, some (.fz (.int x))], [some (.fz (.int s)), some (.fz (.int e)), none, some (.fz (.lst (kept.map D.int))), none, some (.fz (.int x))], rfl, rfl, ?_, ?_, ⟨.fz (.lst (kept.map D.int)), rfl, rfl⟩⟩
      · simp -implicitDefEqProofs [CI_goes_round_2, ho, evV1, evKs, pR, fzsR, mvR, callR, callSR, callK0R, callKR, lcR, lc2R, evDs, seqD, DL.augR, mm1R, bfR, ioR, evE, evOe, evEs, evVs, evB, evBs, evI, evS, evSs, andR, orR, bR_ok, bR_ex, bR_no, bE_ok, bE_ex, bE_no, bF_nx, bF_ret, bF_bk, bF_ct, bF_ex, bF_no, oR_s, oR_n, evP, d_fz, d_lst, d_tup, o_add, o_adds, o_sub, o_mul, o_fdiv, o_mod, o_pow, o_lt, o_le, o_gt, o_ge, o_eq, o_ne, o_isN, o_isnN, o_in, o_nin, x_fl, x_ft, x_fs, x_l, x_t, b_lens, b_lenl, b_lent, b_lenr, b_int, b_intb, b_abs, b_min, b_max, t_bl, t_int, t_lst, t_tup, t_non, n_int, z_fz, i_ii, i_bi, i_bb, i_ib, nn_int, nn_non, o_neb, o_eqb, l_lst, l_tup, l_int, k_ft, k_t, y_fl, y_l, a_ints, a_ll, a_fl, a_lf, a_ff, m_app, m_ext, s_lst, callD, takeA, putA, retOk, lendA, ioA, isFz, T.sh, T.shs, shE, D.imm, D.imms, rsvPt, evSet, subT, putT, storeG, st_n, st_t, sts_n, sts_c, allFz, allFzA, tupT, evMmP, evMm, lstAt, wipeT, ownsA, pickL, callSt, evT_lit, evT_sl, evT_gl, evT_op, evT_ch, evT_not, evT_and, evT_or, evT_ife, evT_neg, evT_ix, evT_b1, evT_b2, evT_isi, sizeLine_eq, Function.comp_def]
      · exact lc_on (em := D.int) _ rfl _ acc hl fun y _ => ⟨[some (.fz (.int s)), some (.fz (.int e)), none, some (.fz (.lst (kept.map D.int))), some (.fz (.int y)), some (.fz (.int x))], rfl, rfl, rfl, rfl⟩)
  obtain ⟨ρ', C2, o, ho, rfl⟩ := C2
  have eq := eq_ints ns (spr s q kept)
  have fl : ((rgm s q).flatMap fun st => kept.map fun r => T.fz (.int (st + r))) = (spr s q kept).map fun x => T.fz (.int x) := by
    unfold spr
    rw [List.map_flatMap]
    congr 1
    funext st
    rw [List.map_map]
    rfl
  rw [fl, List.nil_append] at C2
  generalize spr s q kept = sp at *
  rw [F_goes_round_eq]
  simp -implicitDefEqProofs [denB, finS, d_goes_round, List.range, List.range.loop, C1, rr, C2, eq, evV1, evKs, pR, fzsR, mvR, callR, callSR, callK0R, callKR, lcR, lc2R, evDs, seqD, DL.augR, mm1R, bfR, ioR, evE, evOe, evEs, evVs, evB, evBs, evI, evS, evSs, andR, orR, bR_ok, bR_ex, bR_no, bE_ok, bE_ex, bE_no, bF_nx, bF_ret, bF_bk, bF_ct, bF_ex, bF_no, oR_s, oR_n, evP, d_fz, d_lst, d_tup, o_add, o_adds, o_sub, o_mul, o_fdiv, o_mod, o_pow, o_lt, o_le, o_gt, o_ge, o_eq, o_ne, o_isN, o_isnN, o_in, o_nin, x_fl, x_ft, x_fs, x_l, x_t, b_lens, b_lenl, b_lent, b_lenr, b_int, b_intb, b_abs, b_min, b_max, t_bl, t_int, t_lst, t_tup, t_non, n_int, z_fz, i_ii, i_bi, i_bb, i_ib, nn_int, nn_non, o_neb, o_eqb, l_lst, l_tup, l_int, k_ft, k_t, y_fl, y_l, a_ints, a_ll, a_fl, a_lf, a_ff, m_app, m_ext, s_lst, callD, takeA, putA, retOk, lendA, ioA, isFz, T.sh, T.shs, shE, D.imm, D.imms, rsvPt, evSet, subT, putT, storeG, st_n, st_t, sts_n, sts_c, allFz, allFzA, tupT, evMmP, evMm, lstAt, wipeT, ownsA, pickL, callSt, evT_lit, evT_sl, evT_gl, evT_op, evT_ch, evT_not, evT_and, evT_or, evT_ife, evT_neg, evT_ix, evT_b1, evT_b2, evT_isi, sizeLine_eq, Function.comp_def]
theorem lot_cut {s e : Int} {q : Nat} {ns : List Int} (l : Lot e ns) (s1 : 1 ≤ s) (s2 : s ≤ e) (h : e = s * q) (hs : ns = spr s q (ns.filter fun x => decide (x < s))) : Lot s (ns.filter fun x => decide (x < s)) ∧ SameL e ns s (ns.filter fun x => decide (x < s)) := by
  have lk : Lot s (ns.filter fun x => decide (x < s)) := ⟨s1, by have := l.e2; omega, l.asc.filter _, fun x hx => by
    obtain ⟨h1, h2⟩ := List.mem_filter.mp hx
    exact ⟨(l.rng x h1).1, of_decide_eq_true h2⟩⟩
  refine ⟨lk, fun x => ?_⟩
  have l1 := l.e1
  have y0 := Int.emod_nonneg x (show e ≠ 0 by omega)
  have y1 := Int.emod_lt_of_pos x (show 0 < e by omega)
  have ys : x % e % s = x % s := Int.emod_emod_of_dvd x ⟨(q : Int), h⟩
  generalize (ns.filter fun x => decide (x < s)) = kept at *
  constructor
  · intro m
    rw [hs]
    unfold spr
    rw [List.mem_flatMap]
    have d := Int.emod_add_mul_ediv (x % e) s
    have q0 : 0 ≤ x % e / s := Int.ediv_nonneg y0 (by omega)
    have q1 : x % e / s < q := Int.ediv_lt_of_lt_mul (by omega) (by rw [Int.mul_comm, ← h]; exact y1)
    refine ⟨((x % e / s).toNat : Int) * s, mem_rgm.mpr ⟨(x % e / s).toNat, by omega, rfl⟩, List.mem_map.mpr ⟨x % s, m, ?_⟩⟩
    rw [show (((x % e / s).toNat : Nat) : Int) = x % e / s by omega, Int.mul_comm, ← ys]
    omega
  · intro m
    rw [hs] at m
    unfold spr at m
    obtain ⟨st, h1, h2⟩ := List.mem_flatMap.mp m
    obtain ⟨i, hi, rfl⟩ := mem_rgm.mp h1
    obtain ⟨r, hr, er⟩ := List.mem_map.mp h2
    have r01 := lk.rng r hr
    rw [← ys, ← er, Int.add_comm, Int.add_mul_emod_self_right, Int.emod_eq_of_lt r01.1 r01.2]
    exact hr
theorem SameL.trans {a b c : Int} {x y z : List Int} (h : SameL a x b y) (k : SameL b y c z) : SameL a x c z := fun n => (k n).trans (h n)
theorem told_while {p : Int} (p2 : 2 ≤ p) (p3 : p ≤ 5040) : ∀ (m : Nat) (e : Int) (ns : List Int) (o1 : T) (o3 : Option T), e.toNat ≤ m → Lot e ns → o1.d = .lst (ns.map D.int) → ∃ e' ns' o1' o3', Lot e' ns' ∧ SameL e ns e' ns' ∧ o1'.d = .lst (ns'.map D.int) ∧
    whileF (evB tb2 BW_told_lot_1) (evSs tb2 B_told_lot_1) [some (.fz (.int e)), some o1, some (.fz (.int p)), o3] = some (.nx [some (.fz (.int e')), some o1', some (.fz (.int p)), o3'])
  | 0, e, ns, o1, o3, h, l, _ => by have := l.e1; omega
  | m + 1, e, ns, o1, o3, h, l, hd => by
    have l1 := l.e1
    have l2 := l.e2
    have ln := l.len
    have p0 : 0 < p := by omega
    have dv : divB p = true := divB_le p0 (by omega)
    rw [whileF_eq]
    by_cases c : e % p = 0
    · obtain ⟨q1, q2, q3⟩ := div_down l1 p2 c
      have hq : e = e / p * (p.toNat : Int) := by
        rw [show ((p.toNat : Nat) : Int) = p by omega, Int.mul_comm]
        exact q3
      have g := goes_ok l q1 hq
      by_cases gs : ns = spr (e / p) p.toNat (ns.filter fun x => decide (x < e / p))
      · obtain ⟨lk, sl⟩ := lot_cut l q1 (by omega) hq gs
        rw [decide_eq_true gs] at g
        have C : lcF (stT (.n 3)) (evBs tb2 CT_told_lot_1) (evE tb2 CE_told_lot_1) [3] (ns.map D.int) [some (.fz (.int (e / p))), none, some (.fz (.int p)), none] [] =
            some (.ok ((ns.filter fun x => decide (x < e / p)).map fun x => .fz (.int x)) [some (.fz (.int (e / p))), none, some (.fz (.int p)), none]) :=
          lc_p (em := D.int) _ _ rfl _ (by omega) fun x _ => ⟨[some (.fz (.int (e / p))), none, some (.fz (.int p)), some (.fz (.int x))], rfl, rfl, by simp -implicitDefEqProofs [CT_told_lot_1, evV1, evKs, pR, fzsR, mvR, callR, callSR, callK0R, callKR, lcR, lc2R, evDs, seqD, DL.augR, mm1R, bfR, ioR, evE, evOe, evEs, evVs, evB, evBs, evI, evS, evSs, andR, orR, bR_ok, bR_ex, bR_no, bE_ok, bE_ex, bE_no, bF_nx, bF_ret, bF_bk, bF_ct, bF_ex, bF_no, oR_s, oR_n, evP, d_fz, d_lst, d_tup, o_add, o_adds, o_sub, o_mul, o_fdiv, o_mod, o_pow, o_lt, o_le, o_gt, o_ge, o_eq, o_ne, o_isN, o_isnN, o_in, o_nin, x_fl, x_ft, x_fs, x_l, x_t, b_lens, b_lenl, b_lent, b_lenr, b_int, b_intb, b_abs, b_min, b_max, t_bl, t_int, t_lst, t_tup, t_non, n_int, z_fz, i_ii, i_bi, i_bb, i_ib, nn_int, nn_non, o_neb, o_eqb, l_lst, l_tup, l_int, k_ft, k_t, y_fl, y_l, a_ints, a_ll, a_fl, a_lf, a_ff, m_app, m_ext, s_lst, callD, takeA, putA, retOk, lendA, ioA, isFz, T.sh, T.shs, shE, D.imm, D.imms, rsvPt, evSet, subT, putT, storeG, st_n, st_t, sts_n, sts_c, allFz, allFzA, tupT, evMmP, evMm, lstAt, wipeT, ownsA, pickL, callSt, evT_lit, evT_sl, evT_gl, evT_op, evT_ch, evT_not, evT_and, evT_or, evT_ife, evT_neg, evT_ix, evT_b1, evT_b2, evT_isi, sizeLine_eq, Function.comp_def], fun _ => rfl⟩
        obtain ⟨e', ns', o1', o3', r1, r2, r3, r4⟩ := told_while p2 p3 m (e / p) _ (.lst ((ns.filter fun x => decide (x < e / p)).map fun x => .fz (.int x))) none (by omega) lk (by rw [d_lst, List.map_map]; rfl)
        refine ⟨e', ns', o1', o3', r1, sl.trans r2, r3, ?_⟩
        have T1 : evB tb2 BW_told_lot_1 [some (.fz (.int e)), some o1, some (.fz (.int p)), o3] = some (.ok true [some (.fz (.int e)), some (.fz (.lst (ns.map D.int))), some (.fz (.int p)), o3]) := by
          simp -implicitDefEqProofs [BW_told_lot_1, p0, c, dv, hd, g, Lw.at_2_0, Lw.at_2_1, Lw.at_3_2, Lw.at_6_4, Lw.at_6_5, Lw.at_7_4, Lw.at_12_10, Lw.at_14_10, Lw.at_14_13, Lw.at_15_10, Lw.at_15_14, Lw.at_17_16, Lw.at_19_3, Lw.at_19_6, Lw.at_19_7, Lw.at_19_8, Lw.at_19_10, Lw.at_19_11, Lw.at_19_12, Lw.at_19_15, Lw.at_19_17, Lw.at_19_18, Lw.at_20_9, Lw.at_20_19, evV1, evKs, pR, fzsR, mvR, callR, callSR, callK0R, callKR, lcR, lc2R, evDs, seqD, DL.augR, mm1R, bfR, ioR, evE, evOe, evEs, evVs, evB, evBs, evI, evS, evSs, andR, orR, bR_ok, bR_ex, bR_no, bE_ok, bE_ex, bE_no, bF_nx, bF_ret, bF_bk, bF_ct, bF_ex, bF_no, oR_s, oR_n, evP, d_fz, d_lst, d_tup, o_add, o_adds, o_sub, o_mul, o_fdiv, o_mod, o_pow, o_lt, o_le, o_gt, o_ge, o_eq, o_ne, o_isN, o_isnN, o_in, o_nin, x_fl, x_ft, x_fs, x_l, x_t, b_lens, b_lenl, b_lent, b_lenr, b_int, b_intb, b_abs, b_min, b_max, t_bl, t_int, t_lst, t_tup, t_non, n_int, z_fz, i_ii, i_bi, i_bb, i_ib, nn_int, nn_non, o_neb, o_eqb, l_lst, l_tup, l_int, k_ft, k_t, y_fl, y_l, a_ints, a_ll, a_fl, a_lf, a_ff, m_app, m_ext, s_lst, callD, takeA, putA, retOk, lendA, ioA, isFz, T.sh, T.shs, shE, D.imm, D.imms, rsvPt, evSet, subT, putT, storeG, st_n, st_t, sts_n, sts_c, allFz, allFzA, tupT, evMmP, evMm, lstAt, wipeT, ownsA, pickL, callSt, evT_lit, evT_sl, evT_gl, evT_op, evT_ch, evT_not, evT_and, evT_or, evT_ife, evT_neg, evT_ix, evT_b1, evT_b2, evT_isi, sizeLine_eq, Function.comp_def]
        have B1 : evSs tb2 B_told_lot_1 [some (.fz (.int e)), some (.fz (.lst (ns.map D.int))), some (.fz (.int p)), o3] = some (.nx [some (.fz (.int (e / p))), some (.lst ((ns.filter fun x => decide (x < e / p)).map fun x => .fz (.int x))), some (.fz (.int p)), none]) := by
          simp -implicitDefEqProofs [B_told_lot_1, dv, C, evV1, evKs, pR, fzsR, mvR, callR, callSR, callK0R, callKR, lcR, lc2R, evDs, seqD, DL.augR, mm1R, bfR, ioR, evE, evOe, evEs, evVs, evB, evBs, evI, evS, evSs, andR, orR, bR_ok, bR_ex, bR_no, bE_ok, bE_ex, bE_no, bF_nx, bF_ret, bF_bk, bF_ct, bF_ex, bF_no, oR_s, oR_n, evP, d_fz, d_lst, d_tup, o_add, o_adds, o_sub, o_mul, o_fdiv, o_mod, o_pow, o_lt, o_le, o_gt, o_ge, o_eq, o_ne, o_isN, o_isnN, o_in, o_nin, x_fl, x_ft, x_fs, x_l, x_t, b_lens, b_lenl, b_lent, b_lenr, b_int, b_intb, b_abs, b_min, b_max, t_bl, t_int, t_lst, t_tup, t_non, n_int, z_fz, i_ii, i_bi, i_bb, i_ib, nn_int, nn_non, o_neb, o_eqb, l_lst, l_tup, l_int, k_ft, k_t, y_fl, y_l, a_ints, a_ll, a_fl, a_lf, a_ff, m_app, m_ext, s_lst, callD, takeA, putA, retOk, lendA, ioA, isFz, T.sh, T.shs, shE, D.imm, D.imms, rsvPt, evSet, subT, putT, storeG, st_n, st_t, sts_n, sts_c, allFz, allFzA, tupT, evMmP, evMm, lstAt, wipeT, ownsA, pickL, callSt, evT_lit, evT_sl, evT_gl, evT_op, evT_ch, evT_not, evT_and, evT_or, evT_ife, evT_neg, evT_ix, evT_b1, evT_b2, evT_isi, sizeLine_eq, Function.comp_def]
        rw [T1]
        simp only [B1, if_true]
        exact r4
      · rw [decide_eq_false gs] at g
        refine ⟨e, ns, .fz (.lst (ns.map D.int)), o3, l, fun _ => Iff.rfl, rfl, ?_⟩
        simp -implicitDefEqProofs [BW_told_lot_1, B_told_lot_1, p0, c, dv, hd, g, Lw.at_2_0, Lw.at_2_1, Lw.at_3_2, Lw.at_6_4, Lw.at_6_5, Lw.at_7_4, Lw.at_12_10, Lw.at_14_10, Lw.at_14_13, Lw.at_15_10, Lw.at_15_14, Lw.at_17_16, Lw.at_19_3, Lw.at_19_6, Lw.at_19_7, Lw.at_19_8, Lw.at_19_10, Lw.at_19_11, Lw.at_19_12, Lw.at_19_15, Lw.at_19_17, Lw.at_19_18, Lw.at_20_9, Lw.at_20_19, evV1, evKs, pR, fzsR, mvR, callR, callSR, callK0R, callKR, lcR, lc2R, evDs, seqD, DL.augR, mm1R, bfR, ioR, evE, evOe, evEs, evVs, evB, evBs, evI, evS, evSs, andR, orR, bR_ok, bR_ex, bR_no, bE_ok, bE_ex, bE_no, bF_nx, bF_ret, bF_bk, bF_ct, bF_ex, bF_no, oR_s, oR_n, evP, d_fz, d_lst, d_tup, o_add, o_adds, o_sub, o_mul, o_fdiv, o_mod, o_pow, o_lt, o_le, o_gt, o_ge, o_eq, o_ne, o_isN, o_isnN, o_in, o_nin, x_fl, x_ft, x_fs, x_l, x_t, b_lens, b_lenl, b_lent, b_lenr, b_int, b_intb, b_abs, b_min, b_max, t_bl, t_int, t_lst, t_tup, t_non, n_int, z_fz, i_ii, i_bi, i_bb, i_ib, nn_int, nn_non, o_neb, o_eqb, l_lst, l_tup, l_int, k_ft, k_t, y_fl, y_l, a_ints, a_ll, a_fl, a_lf, a_ff, m_app, m_ext, s_lst, callD, takeA, putA, retOk, lendA, ioA, isFz, T.sh, T.shs, shE, D.imm, D.imms, rsvPt, evSet, subT, putT, storeG, st_n, st_t, sts_n, sts_c, allFz, allFzA, tupT, evMmP, evMm, lstAt, wipeT, ownsA, pickL, callSt, evT_lit, evT_sl, evT_gl, evT_op, evT_ch, evT_not, evT_and, evT_or, evT_ife, evT_neg, evT_ix, evT_b1, evT_b2, evT_isi, sizeLine_eq, Function.comp_def]
    · refine ⟨e, ns, o1, o3, l, fun _ => Iff.rfl, hd, ?_⟩
      simp -implicitDefEqProofs [BW_told_lot_1, B_told_lot_1, p0, c, dv, evV1, evKs, pR, fzsR, mvR, callR, callSR, callK0R, callKR, lcR, lc2R, evDs, seqD, DL.augR, mm1R, bfR, ioR, evE, evOe, evEs, evVs, evB, evBs, evI, evS, evSs, andR, orR, bR_ok, bR_ex, bR_no, bE_ok, bE_ex, bE_no, bF_nx, bF_ret, bF_bk, bF_ct, bF_ex, bF_no, oR_s, oR_n, evP, d_fz, d_lst, d_tup, o_add, o_adds, o_sub, o_mul, o_fdiv, o_mod, o_pow, o_lt, o_le, o_gt, o_ge, o_eq, o_ne, o_isN, o_isnN, o_in, o_nin, x_fl, x_ft, x_fs, x_l, x_t, b_lens, b_lenl, b_lent, b_lenr, b_int, b_intb, b_abs, b_min, b_max, t_bl, t_int, t_lst, t_tup, t_non, n_int, z_fz, i_ii, i_bi, i_bb, i_ib, nn_int, nn_non, o_neb, o_eqb, l_lst, l_tup, l_int, k_ft, k_t, y_fl, y_l, a_ints, a_ll, a_fl, a_lf, a_ff, m_app, m_ext, s_lst, callD, takeA, putA, retOk, lendA, ioA, isFz, T.sh, T.shs, shE, D.imm, D.imms, rsvPt, evSet, subT, putT, storeG, st_n, st_t, sts_n, sts_c, allFz, allFzA, tupT, evMmP, evMm, lstAt, wipeT, ownsA, pickL, callSt, evT_lit, evT_sl, evT_gl, evT_op, evT_ch, evT_not, evT_and, evT_or, evT_ife, evT_neg, evT_ix, evT_b1, evT_b2, evT_isi, sizeLine_eq, Function.comp_def]
theorem d_lst_of {o : T} {ds : List D} (h : o.d = .lst ds) : o = .fz (.lst ds) ∨ ∃ ts, o = .lst ts ∧ ts.map T.d = ds := by
  cases o with
  | fz d => exact .inl (congrArg T.fz h)
  | lst ts =>
    rw [d_lst] at h
    cases h
    exact .inr ⟨ts, rfl, rfl⟩
  | tup ts => rw [d_tup] at h; cases h
  | dic ks ts => cases h
  | obj c ns ts => cases h
theorem told_ok {e : Int} {ns : List Int} {o1 : T} (l : Lot e ns) (hd : o1.d = .lst (ns.map D.int)) : ∃ e' ns' rt, Lot e' ns' ∧ SameL e ns e' ns' ∧ rt.d = lotD e' ns' ∧ F_told_lot [.fz (.int e), o1] = some (.ret rt [none, none]) := by
  have l1 := l.e1
  have l2 := l.e2
  have ln := l.len
  rw [F_told_lot_eq]
  have en := eq_nil ns
  by_cases c : ns = []
  · refine ⟨1, [], .tup [.fz (.int 1), .lst []], ⟨by omega, by omega, List.Pairwise.nil, fun x hx => nomatch hx⟩, fun x => by rw [c]; simp, rfl, ?_⟩
    rw [decide_eq_true c] at en
    simp -implicitDefEqProofs [denB, finS, d_told_lot, List.range, List.range.loop, hd, en, evV1, evKs, pR, fzsR, mvR, callR, callSR, callK0R, callKR, lcR, lc2R, evDs, seqD, DL.augR, mm1R, bfR, ioR, evE, evOe, evEs, evVs, evB, evBs, evI, evS, evSs, andR, orR, bR_ok, bR_ex, bR_no, bE_ok, bE_ex, bE_no, bF_nx, bF_ret, bF_bk, bF_ct, bF_ex, bF_no, oR_s, oR_n, evP, d_fz, d_lst, d_tup, o_add, o_adds, o_sub, o_mul, o_fdiv, o_mod, o_pow, o_lt, o_le, o_gt, o_ge, o_eq, o_ne, o_isN, o_isnN, o_in, o_nin, x_fl, x_ft, x_fs, x_l, x_t, b_lens, b_lenl, b_lent, b_lenr, b_int, b_intb, b_abs, b_min, b_max, t_bl, t_int, t_lst, t_tup, t_non, n_int, z_fz, i_ii, i_bi, i_bb, i_ib, nn_int, nn_non, o_neb, o_eqb, l_lst, l_tup, l_int, k_ft, k_t, y_fl, y_l, a_ints, a_ll, a_fl, a_lf, a_ff, m_app, m_ext, s_lst, callD, takeA, putA, retOk, lendA, ioA, isFz, T.sh, T.shs, shE, D.imm, D.imms, rsvPt, evSet, subT, putT, storeG, st_n, st_t, sts_n, sts_c, allFz, allFzA, tupT, evMmP, evMm, lstAt, wipeT, ownsA, pickL, callSt, evT_lit, evT_sl, evT_gl, evT_op, evT_ch, evT_not, evT_and, evT_or, evT_ife, evT_neg, evT_ix, evT_b1, evT_b2, evT_isi, sizeLine_eq, Function.comp_def]
  · rw [decide_eq_false c] at en
    obtain ⟨ps, hp, pe⟩ := parts_of l1 l2 (m := (ns.length : Int)) (by omega) (by omega)
    have L : ∃ ρ', forF (stT (.n 2)) (evSs tb2 B_told_lot_2) (ps.map D.int) [some (.fz (.int e)), some (.fz (.lst (ns.map D.int))), none, none] = some (.nx ρ') ∧
        ∃ e' ns' o1' o2 o3, Lot e' ns' ∧ SameL e ns e' ns' ∧ o1'.d = .lst (ns'.map D.int) ∧ ρ' = [some (.fz (.int e')), some o1', o2, o3] := by
      refine for_ints (fun _ _ ρ' => ∃ e' ns' o1' o2 o3, Lot e' ns' ∧ SameL e ns e' ns' ∧ o1'.d = .lst (ns'.map D.int) ∧ ρ' = [some (.fz (.int e')), some o1', o2, o3]) ⟨e, ns, .fz (.lst (ns.map D.int)), none, none, l, fun _ => Iff.rfl, rfl, rfl⟩ ?_
      rintro done p rest ρ ed ⟨e', ns', o1', o2, o3, h1, h2, h3, rfl⟩
      have pp := hp p (by rw [ed]; simp)
      obtain ⟨e'', ns'', o1'', o3'', r1, r2, r3, r4⟩ := told_while (o3 := o3) pp.1 pp.2 e'.toNat e' ns' o1' (Nat.le_refl _) h1 h3
      refine ⟨_, rfl, _, .inl ?_, e'', ns'', o1'', some (.fz (.int p)), o3'', r1, h2.trans r2, r3, rfl⟩
      simp -implicitDefEqProofs [B_told_lot_2, r4, evV1, evKs, pR, fzsR, mvR, callR, callSR, callK0R, callKR, lcR, lc2R, evDs, seqD, DL.augR, mm1R, bfR, ioR, evE, evOe, evEs, evVs, evB, evBs, evI, evS, evSs, andR, orR, bR_ok, bR_ex, bR_no, bE_ok, bE_ex, bE_no, bF_nx, bF_ret, bF_bk, bF_ct, bF_ex, bF_no, oR_s, oR_n, evP, d_fz, d_lst, d_tup, o_add, o_adds, o_sub, o_mul, o_fdiv, o_mod, o_pow, o_lt, o_le, o_gt, o_ge, o_eq, o_ne, o_isN, o_isnN, o_in, o_nin, x_fl, x_ft, x_fs, x_l, x_t, b_lens, b_lenl, b_lent, b_lenr, b_int, b_intb, b_abs, b_min, b_max, t_bl, t_int, t_lst, t_tup, t_non, n_int, z_fz, i_ii, i_bi, i_bb, i_ib, nn_int, nn_non, o_neb, o_eqb, l_lst, l_tup, l_int, k_ft, k_t, y_fl, y_l, a_ints, a_ll, a_fl, a_lf, a_ff, m_app, m_ext, s_lst, callD, takeA, putA, retOk, lendA, ioA, isFz, T.sh, T.shs, shE, D.imm, D.imms, rsvPt, evSet, subT, putT, storeG, st_n, st_t, sts_n, sts_c, allFz, allFzA, tupT, evMmP, evMm, lstAt, wipeT, ownsA, pickL, callSt, evT_lit, evT_sl, evT_gl, evT_op, evT_ch, evT_not, evT_and, evT_or, evT_ife, evT_neg, evT_ix, evT_b1, evT_b2, evT_isi, sizeLine_eq, Function.comp_def]
    obtain ⟨ρ', f, e', ns', o1', o2, o3, h1, h2, h3, rfl⟩ := L
    have pd : (T.lst (iT ps)).d = .lst (ps.map D.int) := by rw [d_lst, d_iT]
    rcases d_lst_of h3 with rfl | ⟨ts, rfl, ht⟩
    · refine ⟨e', ns', .fz (.tup [.int e', .lst (ns'.map D.int)]), h1, h2, rfl, ?_⟩
      simp -implicitDefEqProofs [denB, finS, d_told_lot, List.range, List.range.loop, hd, en, pe, d_iT, f, Lw.at_2_0, Lw.at_2_1, Lw.at_3_2, Lw.at_6_4, Lw.at_6_5, Lw.at_7_4, Lw.at_12_10, Lw.at_14_10, Lw.at_14_13, Lw.at_15_10, Lw.at_15_14, Lw.at_17_16, Lw.at_19_3, Lw.at_19_6, Lw.at_19_7, Lw.at_19_8, Lw.at_19_10, Lw.at_19_11, Lw.at_19_12, Lw.at_19_15, Lw.at_19_17, Lw.at_19_18, Lw.at_20_9, Lw.at_20_19, evV1, evKs, pR, fzsR, mvR, callR, callSR, callK0R, callKR, lcR, lc2R, evDs, seqD, DL.augR, mm1R, bfR, ioR, evE, evOe, evEs, evVs, evB, evBs, evI, evS, evSs, andR, orR, bR_ok, bR_ex, bR_no, bE_ok, bE_ex, bE_no, bF_nx, bF_ret, bF_bk, bF_ct, bF_ex, bF_no, oR_s, oR_n, evP, d_fz, d_lst, d_tup, o_add, o_adds, o_sub, o_mul, o_fdiv, o_mod, o_pow, o_lt, o_le, o_gt, o_ge, o_eq, o_ne, o_isN, o_isnN, o_in, o_nin, x_fl, x_ft, x_fs, x_l, x_t, b_lens, b_lenl, b_lent, b_lenr, b_int, b_intb, b_abs, b_min, b_max, t_bl, t_int, t_lst, t_tup, t_non, n_int, z_fz, i_ii, i_bi, i_bb, i_ib, nn_int, nn_non, o_neb, o_eqb, l_lst, l_tup, l_int, k_ft, k_t, y_fl, y_l, a_ints, a_ll, a_fl, a_lf, a_ff, m_app, m_ext, s_lst, callD, takeA, putA, retOk, lendA, ioA, isFz, T.sh, T.shs, shE, D.imm, D.imms, rsvPt, evSet, subT, putT, storeG, st_n, st_t, sts_n, sts_c, allFz, allFzA, tupT, evMmP, evMm, lstAt, wipeT, ownsA, pickL, callSt, evT_lit, evT_sl, evT_gl, evT_op, evT_ch, evT_not, evT_and, evT_or, evT_ife, evT_neg, evT_ix, evT_b1, evT_b2, evT_isi, sizeLine_eq, Function.comp_def]
    · refine ⟨e', ns', .tup [.fz (.int e'), .lst ts], h1, h2, by rw [d_tup]; simp only [List.map_cons, List.map_nil, d_lst, ht]; rfl, ?_⟩
      simp -implicitDefEqProofs [denB, finS, d_told_lot, List.range, List.range.loop, hd, en, pe, d_iT, f, Lw.at_2_0, Lw.at_2_1, Lw.at_3_2, Lw.at_6_4, Lw.at_6_5, Lw.at_7_4, Lw.at_12_10, Lw.at_14_10, Lw.at_14_13, Lw.at_15_10, Lw.at_15_14, Lw.at_17_16, Lw.at_19_3, Lw.at_19_6, Lw.at_19_7, Lw.at_19_8, Lw.at_19_10, Lw.at_19_11, Lw.at_19_12, Lw.at_19_15, Lw.at_19_17, Lw.at_19_18, Lw.at_20_9, Lw.at_20_19, evV1, evKs, pR, fzsR, mvR, callR, callSR, callK0R, callKR, lcR, lc2R, evDs, seqD, DL.augR, mm1R, bfR, ioR, evE, evOe, evEs, evVs, evB, evBs, evI, evS, evSs, andR, orR, bR_ok, bR_ex, bR_no, bE_ok, bE_ex, bE_no, bF_nx, bF_ret, bF_bk, bF_ct, bF_ex, bF_no, oR_s, oR_n, evP, d_fz, d_lst, d_tup, o_add, o_adds, o_sub, o_mul, o_fdiv, o_mod, o_pow, o_lt, o_le, o_gt, o_ge, o_eq, o_ne, o_isN, o_isnN, o_in, o_nin, x_fl, x_ft, x_fs, x_l, x_t, b_lens, b_lenl, b_lent, b_lenr, b_int, b_intb, b_abs, b_min, b_max, t_bl, t_int, t_lst, t_tup, t_non, n_int, z_fz, i_ii, i_bi, i_bb, i_ib, nn_int, nn_non, o_neb, o_eqb, l_lst, l_tup, l_int, k_ft, k_t, y_fl, y_l, a_ints, a_ll, a_fl, a_lf, a_ff, m_app, m_ext, s_lst, callD, takeA, putA, retOk, lendA, ioA, isFz, T.sh, T.shs, shE, D.imm, D.imms, rsvPt, evSet, subT, putT, storeG, st_n, st_t, sts_n, sts_c, allFz, allFzA, tupT, evMmP, evMm, lstAt, wipeT, ownsA, pickL, callSt, evT_lit, evT_sl, evT_gl, evT_op, evT_ch, evT_not, evT_and, evT_or, evT_ife, evT_neg, evT_ix, evT_b1, evT_b2, evT_isi, sizeLine_eq, Function.comp_def]
theorem lot_ok {e : Int} {xs : List Int} {o1 : T} (e1 : 1 ≤ e) (e2 : e ≤ 5040) (hl : xs.length ≤ 8192) (hd : o1.d = .lst (xs.map D.int)) : ∃ e' ns' rt, Lot e' ns' ∧ SameL e (setI (xs.map fun x => x % e)) e' ns' ∧ rt.d = lotD e' ns' ∧ F_lot [.fz (.int e), o1] = some (.ret rt [none, none]) := by
  have e0 : 0 < e := by omega
  have rng : ∀ y ∈ xs.map (fun x => x % e), 0 ≤ y ∧ y < e := fun y hy => by
    obtain ⟨x, _, rfl⟩ := List.mem_map.mp hy
    exact ⟨Int.emod_nonneg _ (by omega), Int.emod_lt_of_pos _ e0⟩
  have C : lcF (stT (.n 2)) (evBs tb3 CT_lot_1) (evE tb3 CE_lot_1) [2] (xs.map D.int) [some (.fz (.int e)), none, none] [] = some (.ok (xs.map fun x => .fz (.int (x % e))) [some (.fz (.int e)), none, none]) :=
    lc_m (em := D.int) _ rfl _ (by omega) fun x _ => ⟨[some (.fz (.int e)), none, some (.fz (.int x))], rfl, rfl, rfl, by simp -implicitDefEqProofs [CE_lot_1, e0, evV1, evKs, pR, fzsR, mvR, callR, callSR, callK0R, callKR, lcR, lc2R, evDs, seqD, DL.augR, mm1R, bfR, ioR, evE, evOe, evEs, evVs, evB, evBs, evI, evS, evSs, andR, orR, bR_ok, bR_ex, bR_no, bE_ok, bE_ex, bE_no, bF_nx, bF_ret, bF_bk, bF_ct, bF_ex, bF_no, oR_s, oR_n, evP, d_fz, d_lst, d_tup, o_add, o_adds, o_sub, o_mul, o_fdiv, o_mod, o_pow, o_lt, o_le, o_gt, o_ge, o_eq, o_ne, o_isN, o_isnN, o_in, o_nin, x_fl, x_ft, x_fs, x_l, x_t, b_lens, b_lenl, b_lent, b_lenr, b_int, b_intb, b_abs, b_min, b_max, t_bl, t_int, t_lst, t_tup, t_non, n_int, z_fz, i_ii, i_bi, i_bb, i_ib, nn_int, nn_non, o_neb, o_eqb, l_lst, l_tup, l_int, k_ft, k_t, y_fl, y_l, a_ints, a_ll, a_fl, a_lf, a_ff, m_app, m_ext, s_lst, callD, takeA, putA, retOk, lendA, ioA, isFz, T.sh, T.shs, shE, D.imm, D.imms, rsvPt, evSet, subT, putT, storeG, st_n, st_t, sts_n, sts_c, allFz, allFzA, tupT, evMmP, evMm, lstAt, wipeT, ownsA, pickL, callSt, evT_lit, evT_sl, evT_gl, evT_op, evT_ch, evT_not, evT_and, evT_or, evT_ife, evT_neg, evT_ix, evT_b1, evT_b2, evT_isi, sizeLine_eq, Function.comp_def]⟩
  have bg : bigI (xs.map fun x => x % e) = true := by
    unfold bigI
    simp only [Bool.and_eq_true, decide_eq_true_eq, Bool.not_eq_true', List.all_eq_true, Bool.and_eq_false_iff]
    refine ⟨⟨by rw [List.length_map]; exact hl, fun y hy => ?_⟩, .inl ?_⟩
    · have := rng y hy
      omega
    · cases hc : (xs.map fun x => x % e).contains (-1) with
      | false => rfl
      | true =>
        have := rng _ (List.contains_iff_mem.mp hc)
        omega
  have ss := sset_b bg
  have q : iT (xs.map fun x => x % e) = xs.map fun x => T.fz (.int (x % e)) := by
    unfold iT
    rw [List.map_map]
    rfl
  rw [q] at ss
  have lot : Lot e (setI (xs.map fun x => x % e)) := ⟨e1, e2, setI_asc _, fun y hy => rng y ((setI_mem y _).mp hy)⟩
  generalize setI (xs.map fun x => x % e) = ms at *
  obtain ⟨e', ns', rt, r1, r2, r3, r4⟩ := told_ok (o1 := .lst (iT ms)) lot (by rw [d_lst, d_iT])
  refine ⟨e', ns', rt, r1, r2, r3, ?_⟩
  have e5 : ¬ e < 1 := by omega
  rw [F_lot_eq]
  simp -implicitDefEqProofs [denB, finS, d_lot, List.range, List.range.loop, hd, C, ss, r4, e5, Lw.at_2_0, Lw.at_2_1, Lw.at_3_2, Lw.at_6_4, Lw.at_6_5, Lw.at_7_4, Lw.at_12_10, Lw.at_14_10, Lw.at_14_13, Lw.at_15_10, Lw.at_15_14, Lw.at_17_16, Lw.at_19_3, Lw.at_19_6, Lw.at_19_7, Lw.at_19_8, Lw.at_19_10, Lw.at_19_11, Lw.at_19_12, Lw.at_19_15, Lw.at_19_17, Lw.at_19_18, Lw.at_20_9, Lw.at_20_19, evV1, evKs, pR, fzsR, mvR, callR, callSR, callK0R, callKR, lcR, lc2R, evDs, seqD, DL.augR, mm1R, bfR, ioR, evE, evOe, evEs, evVs, evB, evBs, evI, evS, evSs, andR, orR, bR_ok, bR_ex, bR_no, bE_ok, bE_ex, bE_no, bF_nx, bF_ret, bF_bk, bF_ct, bF_ex, bF_no, oR_s, oR_n, evP, d_fz, d_lst, d_tup, o_add, o_adds, o_sub, o_mul, o_fdiv, o_mod, o_pow, o_lt, o_le, o_gt, o_ge, o_eq, o_ne, o_isN, o_isnN, o_in, o_nin, x_fl, x_ft, x_fs, x_l, x_t, b_lens, b_lenl, b_lent, b_lenr, b_int, b_intb, b_abs, b_min, b_max, t_bl, t_int, t_lst, t_tup, t_non, n_int, z_fz, i_ii, i_bi, i_bb, i_ib, nn_int, nn_non, o_neb, o_eqb, l_lst, l_tup, l_int, k_ft, k_t, y_fl, y_l, a_ints, a_ll, a_fl, a_lf, a_ff, m_app, m_ext, s_lst, callD, takeA, putA, retOk, lendA, ioA, isFz, T.sh, T.shs, shE, D.imm, D.imms, rsvPt, evSet, subT, putT, storeG, st_n, st_t, sts_n, sts_c, allFz, allFzA, tupT, evMmP, evMm, lstAt, wipeT, ownsA, pickL, callSt, evT_lit, evT_sl, evT_gl, evT_op, evT_ch, evT_not, evT_and, evT_or, evT_ife, evT_neg, evT_ix, evT_b1, evT_b2, evT_isi, sizeLine_eq, Function.comp_def]
end Lw
namespace Lw
open PySem DL
/-! ### twice round -/
theorem mkD_two {b : Int} {ns : List Int} (l : Lot b ns) : mkD b ns ++ mkD b ns = (rg 0 (b.toNat + b.toNat)).map fun i => D.bl (decide (i % b ∈ ns)) := by
  have b1 := l.e1
  have e1 : mkD b ns = (rg 0 b.toNat).map fun i => D.bl (decide (i % b ∈ ns)) := by
    unfold mkD
    refine List.map_congr_left fun i hi => ?_
    have := mem_rg.mp hi
    rw [Int.emod_eq_of_lt (by omega) (by omega)]
  have e2 : mkD b ns = (rg (0 + (b.toNat : Int)) b.toNat).map fun i => D.bl (decide (i % b ∈ ns)) := by
    unfold mkD rg
    rw [List.map_map, List.map_map]
    refine List.map_congr_left fun i hi => ?_
    have := List.mem_range.mp hi
    have ei : ((0 : Int) + (b.toNat : Int) + (i : Int)) % b = 0 + (i : Int) := by
      rw [show (0 : Int) + (b.toNat : Int) + (i : Int) = (i : Int) + b by omega, Int.add_emod_right, Int.emod_eq_of_lt (by omega) (by omega), Int.zero_add]
    simp only [Function.comp, ei]
  conv => lhs; arg 1; rw [e1]
  conv => lhs; arg 2; rw [e2]
  rw [rg_app, List.map_append]
theorem lg_loop {b : Int} {ns : List Int} : ∀ (n : Nat) (k best now : Int) (o1 : Option T), 0 ≤ k → LgI (fun j => j % b ∈ ns) k best now → ∃ best' now' o1', LgI (fun j => j % b ∈ ns) (k + n) best' now' ∧
    forF (stT (.n 1)) (evSs tb18 B_law_mk_longest_1) ((rg k n).map fun i => D.bl (decide (i % b ∈ ns))) [none, o1, some (.fz (.int best)), some (.fz (.int now))] = some (.nx [none, o1', some (.fz (.int best')), some (.fz (.int now'))])
  | 0, k, best, now, o1, k0, g => ⟨best, now, o1, by simpa using g, rfl⟩
  | n + 1, k, best, now, o1, k0, g => by
    by_cases h : k % b ∈ ns
    · obtain ⟨b', n', o', g', e⟩ := lg_loop n (k + 1) (maxZ best 0) 0 (some (.fz (.bl true))) (by omega) (g.hit k0 h)
      refine ⟨b', n', o', by rw [show k + ((n + 1 : Nat) : Int) = k + 1 + n by omega]; exact g', ?_⟩
      rw [rg_cons, List.map_cons, decide_eq_true h]
      unfold forF
      have B1 : evSs tb18 B_law_mk_longest_1 [none, some (.fz (.bl true)), some (.fz (.int best)), some (.fz (.int now))] = some (.nx [none, some (.fz (.bl true)), some (.fz (.int (maxZ best 0))), some (.fz (.int 0))]) := by
        simp -implicitDefEqProofs [B_law_mk_longest_1, evV1, evKs, pR, fzsR, mvR, callR, callSR, callK0R, callKR, lcR, lc2R, evDs, seqD, DL.augR, mm1R, bfR, ioR, evE, evOe, evEs, evVs, evB, evBs, evI, evS, evSs, andR, orR, bR_ok, bR_ex, bR_no, bE_ok, bE_ex, bE_no, bF_nx, bF_ret, bF_bk, bF_ct, bF_ex, bF_no, oR_s, oR_n, evP, d_fz, d_lst, d_tup, o_add, o_adds, o_sub, o_mul, o_fdiv, o_mod, o_pow, o_lt, o_le, o_gt, o_ge, o_eq, o_ne, o_isN, o_isnN, o_in, o_nin, x_fl, x_ft, x_fs, x_l, x_t, b_lens, b_lenl, b_lent, b_lenr, b_int, b_intb, b_abs, b_min, b_max, t_bl, t_int, t_lst, t_tup, t_non, n_int, z_fz, i_ii, i_bi, i_bb, i_ib, nn_int, nn_non, o_neb, o_eqb, l_lst, l_tup, l_int, k_ft, k_t, y_fl, y_l, a_ints, a_ll, a_fl, a_lf, a_ff, m_app, m_ext, s_lst, callD, takeA, putA, retOk, lendA, ioA, isFz, T.sh, T.shs, shE, D.imm, D.imms, rsvPt, evSet, subT, putT, storeG, st_n, st_t, sts_n, sts_c, allFz, allFzA, tupT, evMmP, evMm, lstAt, wipeT, ownsA, pickL, callSt, evT_lit, evT_sl, evT_gl, evT_op, evT_ch, evT_not, evT_and, evT_or, evT_ife, evT_neg, evT_ix, evT_b1, evT_b2, evT_isi, sizeLine_eq, Function.comp_def]
      have S1 : stT (.n 1) (.fz (.bl true)) [none, o1, some (.fz (.int best)), some (.fz (.int now))] = some [none, some (.fz (.bl true)), some (.fz (.int best)), some (.fz (.int now))] := rfl
      simp only [S1, B1]
      exact e
    · obtain ⟨b', n', o', g', e⟩ := lg_loop n (k + 1) (maxZ best (now + 1)) (now + 1) (some (.fz (.bl false))) (by omega) (g.miss k0 h)
      refine ⟨b', n', o', by rw [show k + ((n + 1 : Nat) : Int) = k + 1 + n by omega]; exact g', ?_⟩
      rw [rg_cons, List.map_cons, decide_eq_false h]
      unfold forF
      have B1 : evSs tb18 B_law_mk_longest_1 [none, some (.fz (.bl false)), some (.fz (.int best)), some (.fz (.int now))] = some (.nx [none, some (.fz (.bl false)), some (.fz (.int (maxZ best (now + 1)))), some (.fz (.int (now + 1)))]) := by
        simp -implicitDefEqProofs [B_law_mk_longest_1, evV1, evKs, pR, fzsR, mvR, callR, callSR, callK0R, callKR, lcR, lc2R, evDs, seqD, DL.augR, mm1R, bfR, ioR, evE, evOe, evEs, evVs, evB, evBs, evI, evS, evSs, andR, orR, bR_ok, bR_ex, bR_no, bE_ok, bE_ex, bE_no, bF_nx, bF_ret, bF_bk, bF_ct, bF_ex, bF_no, oR_s, oR_n, evP, d_fz, d_lst, d_tup, o_add, o_adds, o_sub, o_mul, o_fdiv, o_mod, o_pow, o_lt, o_le, o_gt, o_ge, o_eq, o_ne, o_isN, o_isnN, o_in, o_nin, x_fl, x_ft, x_fs, x_l, x_t, b_lens, b_lenl, b_lent, b_lenr, b_int, b_intb, b_abs, b_min, b_max, t_bl, t_int, t_lst, t_tup, t_non, n_int, z_fz, i_ii, i_bi, i_bb, i_ib, nn_int, nn_non, o_neb, o_eqb, l_lst, l_tup, l_int, k_ft, k_t, y_fl, y_l, a_ints, a_ll, a_fl, a_lf, a_ff, m_app, m_ext, s_lst, callD, takeA, putA, retOk, lendA, ioA, isFz, T.sh, T.shs, shE, D.imm, D.imms, rsvPt, evSet, subT, putT, storeG, st_n, st_t, sts_n, sts_c, allFz, allFzA, tupT, evMmP, evMm, lstAt, wipeT, ownsA, pickL, callSt, evT_lit, evT_sl, evT_gl, evT_op, evT_ch, evT_not, evT_and, evT_or, evT_ife, evT_neg, evT_ix, evT_b1, evT_b2, evT_isi, sizeLine_eq, Function.comp_def]
      have S1 : stT (.n 1) (.fz (.bl false)) [none, o1, some (.fz (.int best)), some (.fz (.int now))] = some [none, some (.fz (.bl false)), some (.fz (.int best)), some (.fz (.int now))] := rfl
      simp only [S1, B1]
      exact e
theorem longest_ok {b : Int} {ns : List Int} {o : T} (l : Lot b ns) (h : ns ≠ []) (hd : o.d = .lst (mkD b ns)) : F_law_mk_longest [o] = some (.ret (.fz (.int (widV b ns))) [none]) := by
  have l1 := l.e1
  have l2 := l.e2
  obtain ⟨best, now, o1, g, e⟩ := lg_loop (b := b) (ns := ns) (b.toNat + b.toNat) 0 0 0 none (Int.le_refl _) (LgI.zero _)
  have g' : LgI (fun j => j % b ∈ ns) (2 * b) best now := by
    rw [show 2 * b = 0 + ((b.toNat + b.toNat : Nat) : Int) by omega]
    exact g
  have eb : best = widV b ns := (lg_wid l h g').uniq (widV_ok l h)
  subst eb
  rw [← mkD_two l] at e
  have hl : (mkD b ns).length = b.toNat := by unfold mkD; rw [List.length_map, rg_len]
  have sz : b.toNat + b.toNat ≤ 16777216 := by omega
  generalize mkD b ns = mD at *
  rw [F_law_mk_longest_eq]
  simp -implicitDefEqProofs [denB, finS, d_law_mk_longest, List.range, List.range.loop, hd, hl, sz, e, evV1, evKs, pR, fzsR, mvR, callR, callSR, callK0R, callKR, lcR, lc2R, evDs, seqD, DL.augR, mm1R, bfR, ioR, evE, evOe, evEs, evVs, evB, evBs, evI, evS, evSs, andR, orR, bR_ok, bR_ex, bR_no, bE_ok, bE_ex, bE_no, bF_nx, bF_ret, bF_bk, bF_ct, bF_ex, bF_no, oR_s, oR_n, evP, d_fz, d_lst, d_tup, o_add, o_adds, o_sub, o_mul, o_fdiv, o_mod, o_pow, o_lt, o_le, o_gt, o_ge, o_eq, o_ne, o_isN, o_isnN, o_in, o_nin, x_fl, x_ft, x_fs, x_l, x_t, b_lens, b_lenl, b_lent, b_lenr, b_int, b_intb, b_abs, b_min, b_max, t_bl, t_int, t_lst, t_tup, t_non, n_int, z_fz, i_ii, i_bi, i_bb, i_ib, nn_int, nn_non, o_neb, o_eqb, l_lst, l_tup, l_int, k_ft, k_t, y_fl, y_l, a_ints, a_ll, a_fl, a_lf, a_ff, m_app, m_ext, s_lst, callD, takeA, putA, retOk, lendA, ioA, isFz, T.sh, T.shs, shE, D.imm, D.imms, rsvPt, evSet, subT, putT, storeG, st_n, st_t, sts_n, sts_c, allFz, allFzA, tupT, evMmP, evMm, lstAt, wipeT, ownsA, pickL, callSt, evT_lit, evT_sl, evT_gl, evT_op, evT_ch, evT_not, evT_and, evT_or, evT_ife, evT_neg, evT_ix, evT_b1, evT_b2, evT_isi, sizeLine_eq, Function.comp_def]
/-! the waits -/
abbrev stW (p o8 o11 o6 : Option T) (b v far : Int) (ns : List Int) (s : Str) (st : Int) (ws : List T) : Sl := [p, some (.fz (.int b)), some (.fz (lotD b ns)), some (.fz (.int v)), some (.fz (.int v)), some (.fz (.int far)), o6, some (.fz (.str s)), o8, some (.fz (.int st)), some (.lst ws), o11]
theorem waits_loop {b v c : Int} {ns xs : List Int} {s : Str} {st : Int} {p o8 o6 o11 : Option T} (l : Lot b ns) (h : ns ≠ []) (c0 : 0 ≤ c) (hx : ∀ x ∈ xs, x ∈ ns) (hl : xs.length ≤ 20000) :
    ∃ o6' o11', forF (stT (.n 6)) (evSs tb19 B_law_right_1) (xs.map D.int) (stW p o8 o11 o6 b v (b * c) ns s st []) = some (.nx (stW p o8 o11' o6' b v (b * c) ns s st (iT (xs.map fun x => wt b ns (x + 1))))) := by
  have l1 := l.e1
  have L : ∃ ρ', forF (stT (.n 6)) (evSs tb19 B_law_right_1) (xs.map D.int) (stW p o8 o11 o6 b v (b * c) ns s st []) = some (.nx ρ') ∧
      ∃ o6' o11', ρ' = stW p o8 o11' o6' b v (b * c) ns s st (iT (xs.map fun x => wt b ns (x + 1))) := by
    refine for_ints (fun done rest ρ' => ∃ o6' o11', ρ' = stW p o8 o11' o6' b v (b * c) ns s st (iT (done.map fun x => wt b ns (x + 1)))) ⟨o6, o11, rfl⟩ ?_
    rintro done x rest ρ ed ⟨q6, q11, rfl⟩
    have xm := hx x (by rw [ed]; simp)
    have x01 := l.rng x xm
    have bc : 0 ≤ b * c := Int.mul_nonneg (by omega) c0
    have nx := next_ok (d := b * c + x + 1) l (by omega)
    have nd : nextD b ns (b * c + x + 1) = .int (b * c + x + 1 + wt b ns (x + 1)) := by
      have z := wt_mod (b := b) (x := b * c + x) h l
      rw [Int.add_comm (b * c) x, Int.add_mul_emod_self_left, Int.emod_eq_of_lt x01.1 x01.2, Int.add_comm x (b * c)] at z
      rw [z]
      cases ns with
      | nil => exact absurd rfl h
      | cons n r => rfl
    rw [nd] at nx
    have dl : done.length < 16777216 := by
      have := congrArg List.length ed
      rw [List.length_append, List.length_cons] at this
      omega
    have su : b * c + x + 1 + wt b ns (x + 1) - (b * c + x + 1) = wt b ns (x + 1) := by omega
    refine ⟨_, rfl, _, .inl ?_, some (.fz (.int x)), some (.fz (.int (b * c + x + 1))), rfl⟩
    rw [List.map_append]
    simp -implicitDefEqProofs [B_law_right_1, nx, dl, su, Lw.at_2_0, Lw.at_2_1, Lw.at_3_2, Lw.at_6_4, Lw.at_6_5, Lw.at_7_4, Lw.at_12_10, Lw.at_14_10, Lw.at_14_13, Lw.at_15_10, Lw.at_15_14, Lw.at_17_16, Lw.at_19_3, Lw.at_19_6, Lw.at_19_7, Lw.at_19_8, Lw.at_19_10, Lw.at_19_11, Lw.at_19_12, Lw.at_19_15, Lw.at_19_17, Lw.at_19_18, Lw.at_20_9, Lw.at_20_19, evV1, evKs, pR, fzsR, mvR, callR, callSR, callK0R, callKR, lcR, lc2R, evDs, seqD, DL.augR, mm1R, bfR, ioR, evE, evOe, evEs, evVs, evB, evBs, evI, evS, evSs, andR, orR, bR_ok, bR_ex, bR_no, bE_ok, bE_ex, bE_no, bF_nx, bF_ret, bF_bk, bF_ct, bF_ex, bF_no, oR_s, oR_n, evP, d_fz, d_lst, d_tup, o_add, o_adds, o_sub, o_mul, o_fdiv, o_mod, o_pow, o_lt, o_le, o_gt, o_ge, o_eq, o_ne, o_isN, o_isnN, o_in, o_nin, x_fl, x_ft, x_fs, x_l, x_t, b_lens, b_lenl, b_lent, b_lenr, b_int, b_intb, b_abs, b_min, b_max, t_bl, t_int, t_lst, t_tup, t_non, n_int, z_fz, i_ii, i_bi, i_bb, i_ib, nn_int, nn_non, o_neb, o_eqb, l_lst, l_tup, l_int, k_ft, k_t, y_fl, y_l, a_ints, a_ll, a_fl, a_lf, a_ff, m_app, m_ext, s_lst, callD, takeA, putA, retOk, lendA, ioA, isFz, T.sh, T.shs, shE, D.imm, D.imms, rsvPt, evSet, subT, putT, storeG, st_n, st_t, sts_n, sts_c, allFz, allFzA, tupT, evMmP, evMm, lstAt, wipeT, ownsA, pickL, callSt, evT_lit, evT_sl, evT_gl, evT_op, evT_ch, evT_not, evT_and, evT_or, evT_ife, evT_neg, evT_ix, evT_b1, evT_b2, evT_isi, sizeLine_eq, Function.comp_def]
  obtain ⟨ρ', e, o6', o11', rfl⟩ := L
  exact ⟨o6', o11', e⟩
end Lw
namespace Lw
open PySem DL
def R_law_right : Ss := (.cons (.for_ (.n 6) (.lst (.add (.slice (.p (.ix (.sl 2) (.lit (.int 1)))) (.some (.p (.sl 9))) (.some (.p (.op .add (.sl 9) (.lit (.int 40)))))) (.slice (.slice (.p (.ix (.sl 2) (.lit (.int 1)))) .none (.some (.p (.sl 9)))) .none (.some (.p (.lit (.int 40))))))) B_law_right_1) (.cons (.ife (.cmp .gt (.bf .max (.cons (.fzs 10) .nil)) (.p (.sl 4))) (.cons (.ret (.p (.lit (.bl false)))) .nil) .nil) (.cons (.ife (.and (.p (.op .le (.b1 .len (.ix (.sl 2) (.lit (.int 1)))) (.lit (.int 40)))) (.cmp .ne (.bf .max (.cons (.mv 10) .nil)) (.p (.sl 4)))) (.cons (.ret (.p (.lit (.bl false)))) .nil) .nil) (.cons (.ife (.or (.cmp .ne (.call 7 (.c (.call 3 (.q [.b (.sl 1), .b (.ix (.sl 2) (.lit (.int 1)))])) (.q []))) (.p (.sl 4))) (.cmp .isnN (.call 7 (.c (.tup (.cons (.p (.lit (.int 1))) (.cons (.lst .nil) .nil))) (.q []))) (.p (.lit .non)))) (.cons (.ret (.p (.lit (.bl false)))) .nil) .nil) (.cons (.ret (.and (.cmp .eq (.call 7 (.c (.tup (.cons (.p (.lit (.int 1))) (.cons (.lst (.cons (.p (.lit (.int 0))) .nil)) .nil))) (.q []))) (.p (.lit (.int 0)))) (.and (.cmp .eq (.call 7 (.c (.tup (.cons (.p (.sl 1)) (.cons (.lst (.cons (.p (.op .sub (.sl 1) (.lit (.int 1)))) .nil)) .nil))) (.q []))) (.p (.op .sub (.sl 1) (.lit (.int 1))))) (.cmp .eq (.bf .repr (.cons (.mv 2) .nil)) (.p (.sl 7)))))) .nil)))))
theorem R_law_right_eq : d_law_right.b = (.cons (.asg 1 (.call 12 (.q [.io 0]))) (.cons (.asg 2 (.tup (.cons (.p (.sl 1)) (.cons (.call 15 (.q [.io 0, .b (.sl 1)])) .nil)))) (.cons (.par2 7 8 (.cons (.bf .repr (.cons (.fzs 2) .nil)) (.cons (.call 17 (.c (.fzs 2) (.bf (.sl 1) (.q [])))) .nil))) (.cons (.asg 3 (.call 7 (.c (.fzs 2) (.q [])))) (.cons (.ife (.cmp .eq (.p (.ix (.sl 2) (.lit (.int 1)))) (.lst .nil)) (.cons (.ret (.and (.p (.op .isN (.sl 3) (.lit .non))) (.and (.cmp .isN (.callK0 8 [(.sl 2)]) (.p (.lit .non))) (.cmp .eq (.bf .repr (.cons (.mv 2) .nil)) (.p (.sl 7)))))) .nil) .nil) (.cons (.asg 4 (.call 18 (.c (.mv 8) (.q [])))) (.cons (.ife (.or (.not (.val (.call 11 (.c (.fzs 3) (.q []))))) (.or (.p (.op .ne (.sl 3) (.sl 4))) (.cmp .ne (.callK0 8 [(.sl 2)]) (.p (.sl 4))))) (.cons (.ret (.p (.lit (.bl false)))) .nil) .nil) (.cons (.par2 9 10 (.cons (.call 10 (.q [.io 0, .b (.b1 .len (.ix (.sl 2) (.lit (.int 1))))])) (.cons (.lst .nil) .nil))) (.cons (.asg 5 (.bin .mul (.p (.sl 1)) (.call 10 (.io 0 (.c (.ix (.lst (.cons (.p (.lit (.int 2))) (.cons (.p (.op .pow (.lit (.int 10)) (.lit (.int 26)))) .nil))) (.call 10 (.q [.io 0, .b (.lit (.int 2))]))) (.q [])))))) R_law_right))))))))) := rfl
theorem widD_ne {e : Int} {ns : List Int} (h : ns ≠ []) : widD e ns = .int (widV e ns) := by
  cases ns with
  | nil => exact absurd rfl h
  | cons n r => rfl
theorem max_mem (m : Int) (ns : List Int) : maxI m ns ∈ m :: ns := (maxI_spec ns m).1
theorem rest_ok {b v c : Int} {ns : List Int} {s : Str} {st : Nat} {p : T} {o8 o6 o11 : Option T} (l : Lot b ns) (h : ns ≠ []) (hv : v = widV b ns) (c0 : 0 ≤ c) (hst : st < ns.length) (hr : reprD (lotD b ns) = some (.str s)) (hk : PyData.strOk s = true) :
    ∃ ρ, evSs tb19 R_law_right (stW (some p) o8 o11 o6 b v (b * c) ns s (st : Int) []) = some (.ret (.fz (.bl true)) ρ) ∧ ρ[0]? = some (some p) := by
  have l1 := l.e1
  have l2 := l.e2
  have ln := l.len
  have wid := widV_ok l h
  rw [← hv] at wid
  have s1 := sl_i ns (some (st : Int)) (some ((st : Int) + 40))
  have s2 := sl_i ns none (some (st : Int))
  have s3 := sl_il (cutG ns none (some (st : Int))) none (some 40)
  have ne1 := cut_has (xs := ns) (m := 40) hst (by decide)
  have m1 : ∀ x ∈ cutG ns (some (st : Int)) (some ((st : Int) + 40)), x ∈ ns := fun x hx => cut_mem hx
  have m2 : ∀ x ∈ cutG (cutG ns none (some (st : Int))) none (some 40), x ∈ ns := fun x hx => cut_mem (cut_mem hx)
  have len1 := cut_len ns (some (st : Int)) (some ((st : Int) + 40))
  have len2 := cut_len (cutG ns none (some (st : Int))) none (some 40)
  have len3 := cut_len ns none (some (st : Int))
  have full : ns.length ≤ 40 → ∀ x ∈ ns, x ∈ cutG ns (some (st : Int)) (some ((st : Int) + 40)) ++ cutG (cutG ns none (some (st : Int))) none (some 40) := fun h40 x hx => by
    rw [cut_all (by omega) (by omega), cut_to (by omega), show ((40 : Int)) = ((40 : Nat) : Int) from rfl, cut_top (by rw [List.length_take]; omega), List.mem_append]
    rw [← List.take_append_drop st ns, List.mem_append] at hx
    exact hx.symm
  generalize cutG ns (some (st : Int)) (some ((st : Int) + 40)) = L1 at *
  generalize cutG (cutG ns none (some (st : Int))) none (some 40) = L2 at *
  generalize cutG ns none (some (st : Int)) = L3 at *
  obtain ⟨o6', o11', W⟩ := waits_loop (p := some p) (o8 := o8) (o6 := o6) (o11 := o11) (v := v) (s := s) (st := (st : Int)) (xs := L1 ++ L2) l h c0 (fun x hx => (List.mem_append.mp hx).elim (m1 x) (m2 x)) (by rw [List.length_append]; omega)
  rw [List.map_append, List.map_append] at W
  cases L1 with
  | nil => exact absurd rfl ne1
  | cons x0 xs =>
    -- the greatest of the waits
    have mx := bf_maxF (wt b ns (x0 + 1)) ((xs ++ L2).map fun x => wt b ns (x + 1))
    have mem := max_mem (wt b ns (x0 + 1)) ((xs ++ L2).map fun x => wt b ns (x + 1))
    have ge := fun d => maxI_ge (wt b ns (x0 + 1)) ((xs ++ L2).map fun x => wt b ns (x + 1)) d
    generalize maxI (wt b ns (x0 + 1)) ((xs ++ L2).map fun x => wt b ns (x + 1)) = gm at *
    have e3 : (wt b ns (x0 + 1) :: (xs ++ L2).map fun x => wt b ns (x + 1)) = (x0 :: xs ++ L2).map fun x => wt b ns (x + 1) := by simp
    rw [e3] at mem
    have ge' : ∀ d, d ≤ gm ↔ ∃ x ∈ x0 :: xs ++ L2, d ≤ wt b ns (x + 1) := fun d => by
      rw [ge d, e3]
      constructor
      · rintro ⟨y, hy, hd⟩
        obtain ⟨x, hx, rfl⟩ := List.mem_map.mp hy
        exact ⟨x, hx, hd⟩
      · rintro ⟨x, hx, hd⟩
        exact ⟨_, List.mem_map.mpr ⟨x, hx, rfl⟩, hd⟩
    have le : gm ≤ v := (wid gm).mpr (by
      obtain ⟨x, hx, hd⟩ := (ge' gm).mp (Int.le_refl _)
      exact ⟨x, (List.mem_append.mp hx).elim (m1 x) (m2 x), hd⟩)
    have eqv : ns.length ≤ 40 → gm = v := fun h40 => Int.le_antisymm le ((ge' v).mpr (by
      obtain ⟨r, hr, hd⟩ := (wid v).mp (Int.le_refl _)
      exact ⟨r, full h40 r hr, hd⟩))
    -- the told lot
    obtain ⟨e', ns', rt, lot', same, hrt, lo⟩ := lot_ok (e := b) (xs := ns) (o1 := .fz (.lst (ns.map D.int))) l1 l2 (by omega) rfl
    have eset : setI (ns.map fun x => x % b) = ns := asc_uniq (setI_asc _) l.asc fun k => by
      rw [setI_mem, List.mem_map]
      constructor
      · rintro ⟨x, hx, e⟩
        have := l.rng x hx
        rw [Int.emod_eq_of_lt this.1 this.2] at e
        rw [← e]
        exact hx
      · intro hx
        have := l.rng k hx
        exact ⟨k, hx, Int.emod_eq_of_lt this.1 this.2⟩
    rw [eset] at same
    have ne' := same.ne l h
    have v' : widV e' ns' = v := (widV_ok lot' ne').uniq (same.wid l lot' h ne' wid)
    have w1 := widest_ok lot' hrt
    rw [widD_ne ne', v'] at w1
    have w2 : F_widest [.tup [.fz (.int 1), .lst []]] = some (.ret (.fz .non) [none]) := widest_ok (e := 1) (ns := []) ⟨by decide, by decide, List.Pairwise.nil, fun _ z => nomatch z⟩ rfl
    have w3 : F_widest [.tup [.fz (.int 1), .lst [.fz (.int 0)]]] = some (.ret (.fz (.int 0)) [none]) := widest_ok (e := 1) (ns := [0]) ⟨by decide, by decide, List.pairwise_singleton .., fun x z => by rw [List.mem_singleton] at z; omega⟩ rfl
    have w4 : F_widest [.tup [.fz (.int b), .lst [.fz (.int (b - 1))]]] = some (.ret (.fz (.int (b - 1))) [none]) := by
      have z := widest_ok (e := b) (ns := [b - 1]) (o := .tup [.fz (.int b), .lst [.fz (.int (b - 1))]]) ⟨l1, l2, List.pairwise_singleton .., fun x z => by rw [List.mem_singleton] at z; omega⟩ rfl
      have e : widD b [b - 1] = .int (b - 1) := by
        show D.int (maxI (b - 1 + b - (b - 1)) [] - 1) = _
        show D.int (b - 1 + b - (b - 1) - 1) = _
        congr 1
        omega
      rw [e] at z
      exact z
    have ek := eq_str hk
    have sz : xs.length + 1 + L2.length ≤ 16777216 := by
      rw [List.length_cons] at len1
      omega
    simp only [List.map_cons, List.cons_append, List.map_append, List.map_map, Function.comp_def, iT] at W mx s1 s3 s2
    have nle : ¬ v < gm := by omega
    by_cases h40 : (ns.length : Int) ≤ 40
    · have e40 := eqv (by omega)
      clear eqv ge ge' mem wid full
      subst e40
      refine ⟨[some p, some (.fz (.int b)), none, some (.fz (.int gm)), some (.fz (.int gm)), some (.fz (.int (b * c))), o6', some (.fz (.str s)), o8, some (.fz (.int (st : Int))), none, o11'], ?_, rfl⟩
      simp -implicitDefEqProofs [R_law_right, lot_0, lot_1, s1, s2, s3, sz, W, mx, nle, h40, lo, w1, w2, w3, w4, hr, ek, bf_repr, Lw.at_2_0, Lw.at_2_1, Lw.at_3_2, Lw.at_6_4, Lw.at_6_5, Lw.at_7_4, Lw.at_12_10, Lw.at_14_10, Lw.at_14_13, Lw.at_15_10, Lw.at_15_14, Lw.at_17_16, Lw.at_19_3, Lw.at_19_6, Lw.at_19_7, Lw.at_19_8, Lw.at_19_10, Lw.at_19_11, Lw.at_19_12, Lw.at_19_15, Lw.at_19_17, Lw.at_19_18, Lw.at_20_9, Lw.at_20_19, evV1, evKs, pR, fzsR, mvR, callR, callSR, callK0R, callKR, lcR, lc2R, evDs, seqD, DL.augR, mm1R, bfR, ioR, evE, evOe, evEs, evVs, evB, evBs, evI, evS, evSs, andR, orR, bR_ok, bR_ex, bR_no, bE_ok, bE_ex, bE_no, bF_nx, bF_ret, bF_bk, bF_ct, bF_ex, bF_no, oR_s, oR_n, evP, d_fz, d_lst, d_tup, o_add, o_adds, o_sub, o_mul, o_fdiv, o_mod, o_pow, o_lt, o_le, o_gt, o_ge, o_eq, o_ne, o_isN, o_isnN, o_in, o_nin, x_fl, x_ft, x_fs, x_l, x_t, b_lens, b_lenl, b_lent, b_lenr, b_int, b_intb, b_abs, b_min, b_max, t_bl, t_int, t_lst, t_tup, t_non, n_int, z_fz, i_ii, i_bi, i_bb, i_ib, nn_int, nn_non, o_neb, o_eqb, l_lst, l_tup, l_int, k_ft, k_t, y_fl, y_l, a_ints, a_ll, a_fl, a_lf, a_ff, m_app, m_ext, s_lst, callD, takeA, putA, retOk, lendA, ioA, isFz, T.sh, T.shs, shE, D.imm, D.imms, rsvPt, evSet, subT, putT, storeG, st_n, st_t, sts_n, sts_c, allFz, allFzA, tupT, evMmP, evMm, lstAt, wipeT, ownsA, pickL, callSt, evT_lit, evT_sl, evT_gl, evT_op, evT_ch, evT_not, evT_and, evT_or, evT_ife, evT_neg, evT_ix, evT_b1, evT_b2, evT_isi, sizeLine_eq, Function.comp_def]
    · clear eqv ge ge' mem wid full
      refine ⟨[some p, some (.fz (.int b)), none, some (.fz (.int v)), some (.fz (.int v)), some (.fz (.int (b * c))), o6', some (.fz (.str s)), o8, some (.fz (.int (st : Int))), some (.fz (.lst (D.int (wt b ns (x0 + 1)) :: (xs.map (fun x => D.int (wt b ns (x + 1))) ++ L2.map fun x => D.int (wt b ns (x + 1)))))), o11'], ?_, rfl⟩
      simp -implicitDefEqProofs [R_law_right, lot_0, lot_1, s1, s2, s3, sz, W, mx, nle, h40, lo, w1, w2, w3, w4, hr, ek, bf_repr, Lw.at_2_0, Lw.at_2_1, Lw.at_3_2, Lw.at_6_4, Lw.at_6_5, Lw.at_7_4, Lw.at_12_10, Lw.at_14_10, Lw.at_14_13, Lw.at_15_10, Lw.at_15_14, Lw.at_17_16, Lw.at_19_3, Lw.at_19_6, Lw.at_19_7, Lw.at_19_8, Lw.at_19_10, Lw.at_19_11, Lw.at_19_12, Lw.at_19_15, Lw.at_19_17, Lw.at_19_18, Lw.at_20_9, Lw.at_20_19, evV1, evKs, pR, fzsR, mvR, callR, callSR, callK0R, callKR, lcR, lc2R, evDs, seqD, DL.augR, mm1R, bfR, ioR, evE, evOe, evEs, evVs, evB, evBs, evI, evS, evSs, andR, orR, bR_ok, bR_ex, bR_no, bE_ok, bE_ex, bE_no, bF_nx, bF_ret, bF_bk, bF_ct, bF_ex, bF_no, oR_s, oR_n, evP, d_fz, d_lst, d_tup, o_add, o_adds, o_sub, o_mul, o_fdiv, o_mod, o_pow, o_lt, o_le, o_gt, o_ge, o_eq, o_ne, o_isN, o_isnN, o_in, o_nin, x_fl, x_ft, x_fs, x_l, x_t, b_lens, b_lenl, b_lent, b_lenr, b_int, b_intb, b_abs, b_min, b_max, t_bl, t_int, t_lst, t_tup, t_non, n_int, z_fz, i_ii, i_bi, i_bb, i_ib, nn_int, nn_non, o_neb, o_eqb, l_lst, l_tup, l_int, k_ft, k_t, y_fl, y_l, a_ints, a_ll, a_fl, a_lf, a_ff, m_app, m_ext, s_lst, callD, takeA, putA, retOk, lendA, ioA, isFz, T.sh, T.shs, shE, D.imm, D.imms, rsvPt, evSet, subT, putT, storeG, st_n, st_t, sts_n, sts_c, allFz, allFzA, tupT, evMmP, evMm, lstAt, wipeT, ownsA, pickL, callSt, evT_lit, evT_sl, evT_gl, evT_op, evT_ch, evT_not, evT_and, evT_or, evT_ife, evT_neg, evT_ix, evT_b1, evT_b2, evT_isi, sizeLine_eq, Function.comp_def]
end Lw
namespace Lw
open PySem DL
theorem pw26 : powB 10 26 = true := by decide +kernel
theorem right_ok {p : T} (h : Pu 0 p) : ∃ p', F_law_right [p] = some (.ret (.fz (.bl true)) [some p']) := by
  obtain ⟨p1, b, u1, l1, l2, e1⟩ := base_ok h (by decide)
  obtain ⟨p2, ns, u2, asc, rng, e2⟩ := leaves_ok u1 (by decide) l1 l2
  have l : Lot b ns := ⟨l1, l2, asc, rng⟩
  have ln := l.len
  obtain ⟨s, hr, hk⟩ := repr_lot (e := b) (ns := ns) (by omega) l2 (fun x hx => by have := rng x hx; omega) ln
  have mk := marks_ok l
  have wd := widest_ok (o := .fz (lotD b ns)) l rfl
  have en := eq_nil ns
  have ek := eq_str hk
  rw [F_law_right_eq]
  by_cases hn : ns = []
  · rw [decide_eq_true hn] at en
    have wn : widD b ns = .non := by rw [hn]; rfl
    rw [wn] at wd
    clear hn wn
    refine ⟨p2, ?_⟩
    simp -implicitDefEqProofs [denB, finS, R_law_right_eq, List.range, List.range.loop, lot_1, e1, e2, mk, hr, wd, en, ek, bf_repr, Lw.at_2_0, Lw.at_2_1, Lw.at_3_2, Lw.at_6_4, Lw.at_6_5, Lw.at_7_4, Lw.at_12_10, Lw.at_14_10, Lw.at_14_13, Lw.at_15_10, Lw.at_15_14, Lw.at_17_16, Lw.at_19_3, Lw.at_19_6, Lw.at_19_7, Lw.at_19_8, Lw.at_19_10, Lw.at_19_11, Lw.at_19_12, Lw.at_19_15, Lw.at_19_17, Lw.at_19_18, Lw.at_20_9, Lw.at_20_19, evV1, evKs, pR, fzsR, mvR, callR, callSR, callK0R, callKR, lcR, lc2R, evDs, seqD, DL.augR, mm1R, bfR, ioR, evE, evOe, evEs, evVs, evB, evBs, evI, evS, evSs, andR, orR, bR_ok, bR_ex, bR_no, bE_ok, bE_ex, bE_no, bF_nx, bF_ret, bF_bk, bF_ct, bF_ex, bF_no, oR_s, oR_n, evP, d_fz, d_lst, d_tup, o_add, o_adds, o_sub, o_mul, o_fdiv, o_mod, o_pow, o_lt, o_le, o_gt, o_ge, o_eq, o_ne, o_isN, o_isnN, o_in, o_nin, x_fl, x_ft, x_fs, x_l, x_t, b_lens, b_lenl, b_lent, b_lenr, b_int, b_intb, b_abs, b_min, b_max, t_bl, t_int, t_lst, t_tup, t_non, n_int, z_fz, i_ii, i_bi, i_bb, i_ib, nn_int, nn_non, o_neb, o_eqb, l_lst, l_tup, l_int, k_ft, k_t, y_fl, y_l, a_ints, a_ll, a_fl, a_lf, a_ff, m_app, m_ext, s_lst, callD, takeA, putA, retOk, lendA, ioA, isFz, T.sh, T.shs, shE, D.imm, D.imms, rsvPt, evSet, subT, putT, storeG, st_n, st_t, sts_n, sts_c, allFz, allFzA, tupT, evMmP, evMm, lstAt, wipeT, ownsA, pickL, callSt, evT_lit, evT_sl, evT_gl, evT_op, evT_ch, evT_not, evT_and, evT_or, evT_ife, evT_neg, evT_ix, evT_b1, evT_b2, evT_isi, sizeLine_eq, Function.comp_def]
  · rw [decide_eq_false hn] at en
    rw [widD_ne hn] at wd
    have lg := longest_ok (o := .lst (mkT b ns)) l hn (by rw [d_lst, d_mkT])
    have hlen : (0 : Int) < ns.length := by
      have := List.length_pos_iff.mpr hn
      omega
    have is := isint_ok (widV b ns)
    obtain ⟨p3, q, u3, q0, q1, e3⟩ := coin_ok u2 (by decide) (n := (ns.length : Int)) hlen (by omega)
    obtain ⟨p4, w, u4, w0, w1, e4⟩ := coin_ok u3 (by decide) (n := 2) (by decide) (by decide)
    obtain ⟨m, hm0, hm1, em⟩ : ∃ m : Int, 0 < m ∧ m ≤ 100000000000000000000000000 ∧ L2.atI [T.fz (.int 2), T.fz (.int 100000000000000000000000000)] w = some (.fz (.int m)) := by
      obtain ⟨x, hx, e⟩ := at_i (ns := [2, 100000000000000000000000000]) w0 w1
      refine ⟨x, ?_, ?_, e⟩ <;> (simp at hx; omega)
    obtain ⟨p5, c, u5, c0, c1, e5⟩ := coin_ok u4 (by decide) (n := m) hm0 (by omega)
    have mb : mulB b c = true := mulB_of (m := 13) (n := 100) (by omega) (by omega) (by decide)
    obtain ⟨ρ, e6, e7⟩ := rest_ok (p := p5) (o8 := none) (o6 := none) (o11 := none) (st := q.toNat) l hn rfl c0 (by omega) hr hk
    have eq : ((q.toNat : Nat) : Int) = q := by omega
    rw [eq] at e6
    refine ⟨p5, ?_⟩
    simp -implicitDefEqProofs [denB, finS, R_law_right_eq, List.range, List.range.loop, lot_1, e1, e2, mk, hr, wd, en, lg, is, e3, e4, em, e5, mb, pw26, e6, e7, bf_repr, Lw.at_2_0, Lw.at_2_1, Lw.at_3_2, Lw.at_6_4, Lw.at_6_5, Lw.at_7_4, Lw.at_12_10, Lw.at_14_10, Lw.at_14_13, Lw.at_15_10, Lw.at_15_14, Lw.at_17_16, Lw.at_19_3, Lw.at_19_6, Lw.at_19_7, Lw.at_19_8, Lw.at_19_10, Lw.at_19_11, Lw.at_19_12, Lw.at_19_15, Lw.at_19_17, Lw.at_19_18, Lw.at_20_9, Lw.at_20_19, evV1, evKs, pR, fzsR, mvR, callR, callSR, callK0R, callKR, lcR, lc2R, evDs, seqD, DL.augR, mm1R, bfR, ioR, evE, evOe, evEs, evVs, evB, evBs, evI, evS, evSs, andR, orR, bR_ok, bR_ex, bR_no, bE_ok, bE_ex, bE_no, bF_nx, bF_ret, bF_bk, bF_ct, bF_ex, bF_no, oR_s, oR_n, evP, d_fz, d_lst, d_tup, o_add, o_adds, o_sub, o_mul, o_fdiv, o_mod, o_pow, o_lt, o_le, o_gt, o_ge, o_eq, o_ne, o_isN, o_isnN, o_in, o_nin, x_fl, x_ft, x_fs, x_l, x_t, b_lens, b_lenl, b_lent, b_lenr, b_int, b_intb, b_abs, b_min, b_max, t_bl, t_int, t_lst, t_tup, t_non, n_int, z_fz, i_ii, i_bi, i_bb, i_ib, nn_int, nn_non, o_neb, o_eqb, l_lst, l_tup, l_int, k_ft, k_t, y_fl, y_l, a_ints, a_ll, a_fl, a_lf, a_ff, m_app, m_ext, s_lst, callD, takeA, putA, retOk, lendA, ioA, isFz, T.sh, T.shs, shE, D.imm, D.imms, rsvPt, evSet, subT, putT, storeG, st_n, st_t, sts_n, sts_c, allFz, allFzA, tupT, evMmP, evMm, lstAt, wipeT, ownsA, pickL, callSt, evT_lit, evT_sl, evT_gl, evT_op, evT_ch, evT_not, evT_and, evT_or, evT_ife, evT_neg, evT_ix, evT_b1, evT_b2, evT_isi, sizeLine_eq, Function.comp_def]
theorem good (ns : List Int) (hl : ns.length ≤ 63) (hb : ∀ i ∈ ns, Builtin.Int.intBits i ≤ 1048576) : ∃ fin, d_law.F tb20 [.fz (.scr ns)] = some (.ret (.fz (.bl true)) fin) := by
  have mz := minZ_le 6 (ns.length : Int)
  have mx := maxZ_le 1 (minZ 6 (ns.length : Int))
  have rr := r1 (j := maxZ 1 (minZ 6 (ns.length : Int))) (by omega) (by omega)
  have L : ∃ ρ', forF (stT (.n 1)) (evSs tb20 B_law_1) ((rg 0 (maxZ 1 (minZ 6 (ns.length : Int))).toNat).map D.int) [some (.fz (.scr ns)), none, none] = some (.nx ρ') ∧ ∃ o o', ρ' = [some (.fz (.scr ns)), o, o'] := by
    refine for_ints (fun _ _ ρ' => ∃ o o', ρ' = [some (.fz (.scr ns)), o, o']) ⟨none, none, rfl⟩ ?_
    rintro done x r ρ ed ⟨o, o', rfl⟩
    have hx := mem_rg.mp (show x ∈ rg 0 (maxZ 1 (minZ 6 (ns.length : Int))).toNat by rw [ed]; simp)
    obtain ⟨p, u, e1⟩ := purse_ok hb (q := x) (by omega) (by omega)
    obtain ⟨p', e2⟩ := right_ok u
    refine ⟨_, rfl, [some (.fz (.scr ns)), some (.fz (.int x)), some p'], .inl ?_, _, _, rfl⟩
    simp -implicitDefEqProofs [B_law_1, Lw.at_2_0, Lw.at_2_1, Lw.at_3_2, Lw.at_6_4, Lw.at_6_5, Lw.at_7_4, Lw.at_12_10, Lw.at_14_10, Lw.at_14_13, Lw.at_15_10, Lw.at_15_14, Lw.at_17_16, Lw.at_19_3, Lw.at_19_6, Lw.at_19_7, Lw.at_19_8, Lw.at_19_10, Lw.at_19_11, Lw.at_19_12, Lw.at_19_15, Lw.at_19_17, Lw.at_19_18, Lw.at_20_9, Lw.at_20_19, e1, e2, evV1, evKs, pR, fzsR, mvR, callR, callSR, callK0R, callKR, lcR, lc2R, evDs, seqD, DL.augR, mm1R, bfR, ioR, evE, evOe, evEs, evVs, evB, evBs, evI, evS, evSs, andR, orR, bR_ok, bR_ex, bR_no, bE_ok, bE_ex, bE_no, bF_nx, bF_ret, bF_bk, bF_ct, bF_ex, bF_no, oR_s, oR_n, evP, d_fz, d_lst, d_tup, o_add, o_adds, o_sub, o_mul, o_fdiv, o_mod, o_pow, o_lt, o_le, o_gt, o_ge, o_eq, o_ne, o_isN, o_isnN, o_in, o_nin, x_fl, x_ft, x_fs, x_l, x_t, b_lens, b_lenl, b_lent, b_lenr, b_int, b_intb, b_abs, b_min, b_max, t_bl, t_int, t_lst, t_tup, t_non, n_int, z_fz, i_ii, i_bi, i_bb, i_ib, nn_int, nn_non, o_neb, o_eqb, l_lst, l_tup, l_int, k_ft, k_t, y_fl, y_l, a_ints, a_ll, a_fl, a_lf, a_ff, m_app, m_ext, s_lst, callD, takeA, putA, retOk, lendA, ioA, isFz, T.sh, T.shs, shE, D.imm, D.imms, rsvPt, evSet, subT, putT, storeG, st_n, st_t, sts_n, sts_c, allFz, allFzA, tupT, evMmP, evMm, lstAt, wipeT, ownsA, pickL, callSt, evT_lit, evT_sl, evT_gl, evT_op, evT_ch, evT_not, evT_and, evT_or, evT_ife, evT_neg, evT_ix, evT_b1, evT_b2, evT_isi, sizeLine_eq, Function.comp_def]
  obtain ⟨ρ', e1, o, o', rfl⟩ := L
  refine ⟨[none], ?_⟩
  show F_law _ = _
  rw [F_law_eq]
  simp -implicitDefEqProofs [denB, finS, d_law, List.range, List.range.loop, rr, e1, evV1, evKs, pR, fzsR, mvR, callR, callSR, callK0R, callKR, lcR, lc2R, evDs, seqD, DL.augR, mm1R, bfR, ioR, evE, evOe, evEs, evVs, evB, evBs, evI, evS, evSs, andR, orR, bR_ok, bR_ex, bR_no, bE_ok, bE_ex, bE_no, bF_nx, bF_ret, bF_bk, bF_ct, bF_ex, bF_no, oR_s, oR_n, evP, d_fz, d_lst, d_tup, o_add, o_adds, o_sub, o_mul, o_fdiv, o_mod, o_pow, o_lt, o_le, o_gt, o_ge, o_eq, o_ne, o_isN, o_isnN, o_in, o_nin, x_fl, x_ft, x_fs, x_l, x_t, b_lens, b_lenl, b_lent, b_lenr, b_int, b_intb, b_abs, b_min, b_max, t_bl, t_int, t_lst, t_tup, t_non, n_int, z_fz, i_ii, i_bi, i_bb, i_ib, nn_int, nn_non, o_neb, o_eqb, l_lst, l_tup, l_int, k_ft, k_t, y_fl, y_l, a_ints, a_ll, a_fl, a_lf, a_ff, m_app, m_ext, s_lst, callD, takeA, putA, retOk, lendA, ioA, isFz, T.sh, T.shs, shE, D.imm, D.imms, rsvPt, evSet, subT, putT, storeG, st_n, st_t, sts_n, sts_c, allFz, allFzA, tupT, evMmP, evMm, lstAt, wipeT, ownsA, pickL, callSt, evT_lit, evT_sl, evT_gl, evT_op, evT_ch, evT_not, evT_and, evT_or, evT_ife, evT_neg, evT_ix, evT_b1, evT_b2, evT_isi, sizeLine_eq, Function.comp_def]
end Lw
theorem PySem.Challenge.cw_marketdays_k06_widest_waits_holds : PySem.Challenge.rw_marketdays_k06_widest_waits.Holds := by
  exact Lw.holds Lw.good
